/-
  TopSpace: for all bytes and every number of rounds the law returns true.
-/
import Derived.Test.YtfaeklinhchidaaGreatTopSpaceW
import Derived.Test.YtfaeklinhchidaaGreatStrs
import Derived.Test.YtfaeklinhchidaaGreatRows
set_option linter.all false
set_option maxRecDepth 100000
namespace Go.Proofs.YtfaeklinhchidaaGreat.Space
open Go Hold Go.ChangeShapes Go.WideShapes Go.ChangeAt Go.RowKit
theorem walk (W : World) {H : Type} (enc : TypeId × Value → H) (args : Array Value) (ds : List (DataW H)) (ps : List MemPlace)
    (hval : ∀ (j : Nat) t v, Tryz.f3.params.toList[j]? = some t → args.toList[j]? = some v → ∃ base, Value.okWide Tryz.checked.prog W .any base t v)
    (hA : DataW.TrodAll enc Tryz.checked.prog W 0 (fun _ => true) true Tryz.f3.params.toList args.toList ds ps)
    (hw : ∀ (j : Nat) t d, Tryz.f3.params.toList[j]? = some t → ds[j]? = some d → ∀ n ∈ d.weights Tryz.checked.prog t, n ≤ 140737488351232) :
    Calls Tryz.checked.prog 3 args W (Ret fun v W' => v = .bool true ∧ Below W.heap.size W W') := by
  rw [show Tryz.f3.params.toList = [22, 5] by kernel_rfl] at hval hA hw
  obtain ⟨v0, vs0, d0, ds0, p0, q0, hargs, rfl, rfl, h0, r0'⟩ := trodAll_cons hA
  obtain ⟨v1, vs1, d1, ds1, p1, q1, rfl, rfl, rfl, h1, r1'⟩ := trodAll_cons r0'
  obtain ⟨rfl, rfl, rfl⟩ := trodAll_nil r1'
  obtain rfl : args = #[v0, v1] := by cases args; simp_all
  obtain ⟨b0, o0⟩ := hval 0 22 v0 rfl rfl
  obtain ⟨b1, o1⟩ := hval 1 5 v1 rfl rfl
  obtain ⟨x0, rx0, mx0⟩ := open_bytesS (t := 22) (e := 5) (by kernel_rfl) (by kernel_rfl) (by kernel_rfl) (by kernel_rfl) o0 h0 (hw 0 22 d0 rfl rfl)
  obtain ⟨x1, rfl⟩ := open_u8G (t := 5) (by kernel_rfl) o1 h1
  exact Space_spec (sat.start W) x0 rx0 mx0 x1 fun w' h => ⟨rfl, sat.below (h.whole)⟩

theorem lifted (os : Os) (started : os.Started) (H : Type) (enc : TypeId × Value → H) :
    ReturnsInHanded {} Tryz.checked os 3 .any (Rows.topSpaceSpec.pre6 enc Tryz.prog Tryz.f3 Rows.topSpaceRow.domain false) (Rows.topSpaceSpec.post enc Tryz.prog Tryz.f3 false true false false) := by
  refine law_liftedS (C := Tryz.checked) (tb := 4) (by kernel_rfl) started (by kernel_rfl) Tryz.func3
    (ChangeSpec.witness6 (enc := enc) (C := Tryz.checked) false ⟨#[], #[.slice none 0 0, .int .u8 0], []⟩ 8 (by kernel_rfl) (by kernel_rfl) (by kernel_rfl) (by kernel_rfl))
    (by kernel_rfl) (by kernel_rfl) (by kernel_rfl) (by kernel_rfl) rfl ?_ ?_
  · intro ds hd
    rw [show Tryz.f3.params.toList = [22, 5] by kernel_rfl] at hd
    match ds, hd with
    | [a0, a1], _ => rfl
  · exact fun W args ds ps => walk W enc args ds ps

theorem proved : Rows.TopSpaceSaid :=
  OpenClaim.holds_of_wide 3 Tryz.f3 rfl rfl rfl rfl rfl rfl rfl ⟨rfl, rfl, rfl, rfl, rfl⟩ rfl rfl rfl rfl rfl (by kernel_rfl) Tryz.func3 (by kernel_rfl)
    (of_decide_eq_true (by kernel_rfl)) (by unfold Func.isWrapper; first | (rw [if_pos (by decide +kernel)]; kernel_rfl) | (rw [if_neg (by decide +kernel)]; exact ⟨rfl, rfl⟩))
    (fun os started H enc _ => lifted os started H enc)
#print axioms proved
end Go.Proofs.YtfaeklinhchidaaGreat.Space
