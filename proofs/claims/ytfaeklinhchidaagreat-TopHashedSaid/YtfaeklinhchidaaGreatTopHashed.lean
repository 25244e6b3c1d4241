/-
  TopHashed: for all rows of bytes the law returns true.
-/
import Derived.Test.YtfaeklinhchidaaGreatTopHashedW
import Derived.Test.YtfaeklinhchidaaGreatStrs
import Derived.Test.YtfaeklinhchidaaGreatRows
set_option linter.all false
set_option maxRecDepth 100000
namespace Go.Proofs.YtfaeklinhchidaaGreat.Hashed
open Go Hold Go.ChangeShapes Go.WideShapes Go.ChangeAt Go.RowKit
theorem walk (W : World) {H : Type} (enc : TypeId × Value → H) (args : Array Value) (ds : List (DataW H)) (ps : List MemPlace)
    (hval : ∀ (j : Nat) t v, Tryz.f4.params.toList[j]? = some t → args.toList[j]? = some v → ∃ base, Value.okWide Tryz.checked.prog W .any base t v)
    (hA : DataW.TrodAll enc Tryz.checked.prog W 0 (fun _ => true) true Tryz.f4.params.toList args.toList ds ps)
    (hw : ∀ (j : Nat) t d, Tryz.f4.params.toList[j]? = some t → ds[j]? = some d → ∀ n ∈ d.weights Tryz.checked.prog t, n ≤ 140737488351232) :
    Calls Tryz.checked.prog 4 args W (Ret fun v W' => v = .bool true ∧ Below W.heap.size W W') := by
  rw [show Tryz.f4.params.toList = [36] by kernel_rfl] at hval hA hw
  obtain ⟨v0, vs0, d0, ds0, p0, q0, hargs, rfl, rfl, h0, r0'⟩ := trodAll_cons hA
  obtain ⟨rfl, rfl, rfl⟩ := trodAll_nil r0'
  obtain rfl : args = #[v0] := by cases args; simp_all
  obtain ⟨b0, o0⟩ := hval 0 36 v0 rfl rfl
  obtain ⟨x0, rx0, mx0, sx0⟩ := open_rowsS o0 h0 (hw 0 36 d0 rfl rfl)
  exact Hashed_spec (sat.start W) x0 rx0 mx0 sx0 fun w' h => ⟨rfl, sat.below (h.whole)⟩

theorem lifted (os : Os) (started : os.Started) (H : Type) (enc : TypeId × Value → H) :
    ReturnsInHanded {} Tryz.checked os 4 .any (Rows.topHashedSpec.pre6 enc Tryz.prog Tryz.f4 Rows.topHashedRow.domain false) (Rows.topHashedSpec.post enc Tryz.prog Tryz.f4 false true false false) := by
  refine law_liftedS (C := Tryz.checked) (tb := 4) (by kernel_rfl) started (by kernel_rfl) Tryz.func4
    (ChangeSpec.witness6 (enc := enc) (C := Tryz.checked) false ⟨#[], #[.slice none 0 0], []⟩ 8 (by kernel_rfl) (by kernel_rfl) (by kernel_rfl) (by kernel_rfl))
    (by kernel_rfl) (by kernel_rfl) (by kernel_rfl) (by kernel_rfl) rfl ?_ ?_
  · intro ds hd
    rw [show Tryz.f4.params.toList = [36] by kernel_rfl] at hd
    match ds, hd with
    | [a0], _ => rfl
  · exact fun W args ds ps => walk W enc args ds ps

theorem proved : Rows.TopHashedSaid :=
  OpenClaim.holds_of_wide 4 Tryz.f4 rfl rfl rfl rfl rfl rfl rfl ⟨rfl, rfl, rfl, rfl, rfl⟩ rfl rfl rfl rfl rfl (by kernel_rfl) Tryz.func4 (by kernel_rfl)
    (of_decide_eq_true (by kernel_rfl)) (by unfold Func.isWrapper; first | (rw [if_pos (by decide +kernel)]; kernel_rfl) | (rw [if_neg (by decide +kernel)]; exact ⟨rfl, rfl⟩))
    (fun os started H enc _ => lifted os started H enc)
#print axioms proved
end Go.Proofs.YtfaeklinhchidaaGreat.Hashed
