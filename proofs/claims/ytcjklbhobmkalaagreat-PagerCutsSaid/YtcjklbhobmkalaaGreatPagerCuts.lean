/-
  PagerCuts: for every size, all deeds and every place the law returns true.
-/
import Derived.Test.YtcjklbhobmkalaaGreatPagerCutsW
import Derived.Test.YtcjklbhobmkalaaGreatElems
import Derived.Test.YtcjklbhobmkalaaGreatRows
set_option linter.all false
set_option maxRecDepth 100000
namespace Go.Proofs.YtcjklbhobmkalaaGreat.Cuts
open Go Hold Go.ChangeShapes Go.WideShapes Go.ChangeAt Go.RowKit
theorem walk (W : World) {H : Type} (enc : TypeId × Value → H) (args : Array Value) (ds : List (DataW H)) (ps : List MemPlace)
    (hval : ∀ (j : Nat) t v, Tryz.f7.params.toList[j]? = some t → args.toList[j]? = some v → ∃ base, Value.okWide Tryz.checked.prog W .any base t v)
    (hA : DataW.TrodAll enc Tryz.checked.prog W 0 (fun _ => true) true Tryz.f7.params.toList args.toList ds ps)
    (hw : ∀ (j : Nat) t d, Tryz.f7.params.toList[j]? = some t → ds[j]? = some d → ∀ n ∈ d.weights Tryz.checked.prog t, n ≤ 140737488351232) :
    Calls Tryz.checked.prog 7 args W (Ret fun v W' => v = .bool true ∧ Below W.heap.size W W') := by
  rw [show Tryz.f7.params.toList = [5, 39, 53] by kernel_rfl] at hval hA hw
  obtain ⟨v0, vs0, d0, ds0, p0, q0, hargs, rfl, rfl, h0, r0'⟩ := trodAll_cons hA
  obtain ⟨v1, vs1, d1, ds1, p1, q1, rfl, rfl, rfl, h1, r1'⟩ := trodAll_cons r0'
  obtain ⟨v2, vs2, d2, ds2, p2, q2, rfl, rfl, rfl, h2, r2'⟩ := trodAll_cons r1'
  obtain ⟨rfl, rfl, rfl⟩ := trodAll_nil r2'
  obtain rfl : args = #[v0, v1, v2] := by cases args; simp_all
  obtain ⟨b0, o0⟩ := hval 0 5 v0 rfl rfl
  obtain ⟨b1, o1⟩ := hval 1 39 v1 rfl rfl
  obtain ⟨b2, o2⟩ := hval 2 53 v2 rfl rfl
  obtain ⟨x0, rfl⟩ := open_u8G (t := 5) (by kernel_rfl) o0 h0
  obtain ⟨x1, rx1, mx1, sx1⟩ := open_deeds o1 h1 (hw 1 39 d1 rfl rfl)
  obtain ⟨x2, rfl⟩ := open_k o2 h2 (hw 2 53 d2 rfl rfl)
  exact Cuts_spec (sat.start W) x0 x1 rx1 mx1 sx1 x2 fun w' h => ⟨rfl, sat.below (h.whole)⟩

theorem lifted (os : Os) (started : os.Started) (H : Type) (enc : TypeId × Value → H) :
    ReturnsInHanded {} Tryz.checked os 7 .any (Rows.pagerCutsSpec.pre6 enc Tryz.prog Tryz.f7 Rows.pagerCutsRow.domain false) (Rows.pagerCutsSpec.post enc Tryz.prog Tryz.f7 false true false false) := by
  refine law_liftedS (C := Tryz.checked) (tb := 4) (by kernel_rfl) started (by kernel_rfl) Tryz.func7
    (ChangeSpec.witness6 (enc := enc) (C := Tryz.checked) false ⟨#[], #[.int .u8 0, .slice none 0 0, .int .u16 0], []⟩ 8 (by kernel_rfl) (by kernel_rfl) (by kernel_rfl) (by kernel_rfl))
    (by kernel_rfl) (by kernel_rfl) (by kernel_rfl) (by kernel_rfl) rfl ?_ ?_
  · intro ds hd
    rw [show Tryz.f7.params.toList = [5, 39, 53] by kernel_rfl] at hd
    match ds, hd with
    | [a0, a1, a2], _ => rfl
  · exact fun W args ds ps => walk W enc args ds ps

theorem proved : Rows.PagerCutsSaid :=
  OpenClaim.holds_of_wide 7 Tryz.f7 rfl rfl rfl rfl rfl rfl rfl ⟨rfl, rfl, rfl, rfl, rfl⟩ rfl rfl rfl rfl rfl (by kernel_rfl) Tryz.func7 (by kernel_rfl)
    (of_decide_eq_true (by kernel_rfl)) (by unfold Func.isWrapper; first | (rw [if_pos (by decide +kernel)]; kernel_rfl) | (rw [if_neg (by decide +kernel)]; exact ⟨rfl, rfl⟩))
    (fun os started H enc _ => lifted os started H enc)
#print axioms proved
end Go.Proofs.YtcjklbhobmkalaaGreat.Cuts
