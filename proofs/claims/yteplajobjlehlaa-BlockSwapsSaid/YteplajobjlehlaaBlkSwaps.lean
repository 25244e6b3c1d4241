/-
  BlockSwaps: writes to unlike blocks may be done in any order: for every two writes the law returns true.
-/
import Derived.Test.YteplajobjlehlaaBlkH
import Derived.Test.YteplajobjlehlaaBlkV
import Derived.Test.YteplajobjlehlaaLaw
import Derived.Test.YteplajobjlehlaaRows
set_option linter.all false
set_option maxRecDepth 100000
namespace Go.Proofs.Yteplajobjlehlaa.Swaps
open Go Hold Go.ChangeShapes Go.WideShapes Go.ChangeAt Go.RowKit

theorem walk (W : World) {H : Type} (enc : TypeId × Value → H) (args : Array Value) (ds : List (DataW H)) (ps : List MemPlace)
    (hval : ∀ (j : Nat) t v, Try.f6.params.toList[j]? = some t → args.toList[j]? = some v → ∃ base, Value.okWide Try.checked.prog W .any base t v)
    (hA : DataW.TrodAll enc Try.checked.prog W 0 (fun _ => true) true Try.f6.params.toList args.toList ds ps) :
    Calls Try.checked.prog 6 args W (Ret fun v W' => v = .bool true ∧ Below W.heap.size W W') := by
  rw [show Try.f6.params.toList = [24, 24] by kernel_rfl] at hval hA
  obtain ⟨v, v', d, d', p, p', rfl, rfl, rfl, h1, h2⟩ := trodAll_two hA
  obtain ⟨b1, o1⟩ := hval 0 24 v rfl rfl
  obtain ⟨b2, o2⟩ := hval 1 24 v' rfl rfl
  obtain ⟨x, rfl⟩ := open_dd o1 h1
  obtain ⟨y, rfl⟩ := open_dd o2 h2
  exact Swaps_spec (sat.start W) x y fun w' h => ⟨rfl, sat.below (h.whole)⟩

theorem lifted (os : Os) (started : os.Started) (H : Type) (enc : TypeId × Value → H) :
    ReturnsInHanded {} Try.checked os 6 .any (Rows.blockSwapsSpec.pre6 enc Try.prog Try.f6 Rows.blockSwapsRow.domain false) (Rows.blockSwapsSpec.post enc Try.prog Try.f6 false true false false) := by
  refine law_lifted (C := Try.checked) (tb := 4) (by kernel_rfl) started (by kernel_rfl) Try.func6
    (ChangeSpec.witness6 (enc := enc) (C := Try.checked) false ⟨#[], #[.agg #[.int .i64 0, .int .i64 0, .int .u8 0], .agg #[.int .i64 0, .int .i64 0, .int .u8 0]], []⟩ 8 (by kernel_rfl) (by kernel_rfl) (by kernel_rfl) (by kernel_rfl))
    (by kernel_rfl) (by kernel_rfl) (by kernel_rfl) (by kernel_rfl) rfl ?_ ?_
  · intro ds hd
    rw [show Try.f6.params.toList = [24, 24] by kernel_rfl] at hd
    match ds, hd with
    | [a, b], _ => rfl
  · exact fun W args ds ps => walk W enc args ds ps

theorem proved : Rows.BlockSwapsSaid :=
  OpenClaim.holds_of_wide 6 Try.f6 rfl rfl rfl rfl rfl rfl rfl ⟨rfl, rfl, rfl, rfl, rfl⟩ rfl rfl rfl rfl rfl (by kernel_rfl) Try.func6 (by kernel_rfl)
    (of_decide_eq_true (by kernel_rfl)) (by unfold Func.isWrapper; first | (rw [if_pos (by decide +kernel)]; kernel_rfl) | (rw [if_neg (by decide +kernel)]; exact ⟨rfl, rfl⟩))
    (fun os started H enc _ => lifted os started H enc)
#print axioms proved
end Go.Proofs.Yteplajobjlehlaa.Swaps
