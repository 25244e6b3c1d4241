/-
  TopNoted: for all bytes the law returns true.
-/
import Derived.Test.YtmnaalpjhkkglaaDoorTopNotedW
import Derived.Test.YtmnaalpjhkkglaaDoorCodH
import Derived.Test.YtmnaalpjhkkglaaDoorCard
import Derived.Test.YtmnaalpjhkkglaaDoorCards
import Derived.Test.YtmnaalpjhkkglaaDoorTie
set_option linter.all false
set_option maxRecDepth 100000
namespace Go.Proofs.YtmnaalpjhkkglaaDoor.Noted
open Go Hold Go.ChangeShapes Go.WideShapes Go.ChangeAt Go.RowKit
theorem walk (W : World) {H : Type} (enc : TypeId × Value → H) (args : Array Value) (ds : List (DataW H)) (ps : List MemPlace)
    (hval : ∀ (j : Nat) t v, Tryd.f4.params.toList[j]? = some t → args.toList[j]? = some v → ∃ base, Value.okWide Tryd.checked.prog W .any base t v)
    (hA : DataW.TrodAll enc Tryd.checked.prog W 0 (fun _ => true) true Tryd.f4.params.toList args.toList ds ps)
    (hw : ∀ (j : Nat) t d, Tryd.f4.params.toList[j]? = some t → ds[j]? = some d → ∀ n ∈ d.weights Tryd.checked.prog t, n ≤ 140737488351232) (hL : laidMetH Tryd.checked.prog Rows.topNotedRow.laid W) :
    Calls Tryd.checked.prog 4 args W (Ret fun v W' => v = .bool true ∧ Below W.heap.size W W') := by
  rw [show Tryd.f4.params.toList = [25] by kernel_rfl] at hval hA hw
  obtain ⟨v0, vs0, d0, ds0, p0, q0, hargs, rfl, rfl, h0, r0'⟩ := trodAll_cons hA
  obtain ⟨rfl, rfl, rfl⟩ := trodAll_nil r0'
  obtain rfl : args = #[v0] := by cases args; simp_all
  obtain ⟨b0, o0⟩ := hval 0 25 v0 rfl rfl
  obtain ⟨x0, rx0, mx0⟩ := open_bytesS (t := 25) (e := 5) (by kernel_rfl) (by kernel_rfl) (by kernel_rfl) (by kernel_rfl) o0 h0 (hw 0 25 d0 rfl rfl)
  exact Noted_spec (sat.start W) (dbt_of hL) x0 rx0 mx0 fun w' h => ⟨rfl, sat.below (h.whole)⟩

noncomputable def laidWorld (os : Os) : World := layAll Tryd.prog Rows.topNotedRow.laid (World.holding Tryd.prog os ⟨#[], #[], []⟩)
theorem laid_met (os : Os) : laidMet Tryd.prog Rows.topNotedRow.laid ((laidWorld os).forCall (fun _ _ => 0) ⟨#[], #[.slice none 0 0], []⟩).memory :=
  laidMet_of_run' 8 (by kernel_rfl) (by kernel_rfl)
theorem reads (os : Os) {H : Type} (enc : TypeId × Value → H) : ∃ x : List (DataW H) × List (DataW H) × List MemPlace, DataW.whole enc Tryd.prog ((laidWorld os).forCall (fun _ _ => 0) ⟨#[], #[.slice none 0 0], []⟩).memory Tryd.f4.params.toList Rows.topNotedSpec.vars false #[.slice none 0 0].toList 8 = some x :=
  Option.isSome_iff_exists.1 (by kernel_rfl)

theorem lifted (os : Os) (started : os.Started) (H : Type) (enc : TypeId × Value → H) (F : Stop.Interp) :
    ReturnsInHanded {} Tryd.checked os 4 .any ((OpenSpec.ofChange Rows.topNotedSpec).preRow enc Tryd.prog Tryd.f4 Rows.topNotedRow.domain false Rows.topNotedRow.laid) (((OpenSpec.ofChange Rows.topNotedSpec).at F).post enc Tryd.prog Tryd.f4 false true false false) := by
  refine law_liftedC (C := Tryd.checked) (tb := 4) (by kernel_rfl) started (by kernel_rfl) Tryd.func4
    (witness_row_at (enc := enc) (C := Tryd.checked) false (laidWorld os) #[.slice none 0 0] rfl (by kernel_rfl) (by kernel_rfl) (by kernel_rfl)
      (OpenSpec.preRow_of_cond 8 (x := ([.nil], [], [])) (by kernel_rfl) (by kernel_rfl) (fun k hk => by cases hk) (by kernel_rfl) (laid_met os)))
    (by kernel_rfl) (by kernel_rfl) (by kernel_rfl) (by kernel_rfl) rfl ?_ ?_
  · intro ds hd
    rw [show Tryd.f4.params.toList = [25] by kernel_rfl] at hd
    match ds, hd with
    | [a0], _ => rfl
  · exact fun W args ds ps => walk W enc args ds ps

theorem said : Rows.TopNotedSaid :=
  OpenClaim.holds_of_cond 4 Tryd.f4 rfl rfl rfl rfl rfl rfl rfl ⟨rfl, rfl, rfl, rfl, rfl⟩ rfl rfl rfl rfl rfl (by kernel_rfl) Tryd.func4 (by kernel_rfl)
    (of_decide_eq_true (by kernel_rfl)) (by unfold Func.isWrapper; first | (rw [if_pos (by decide +kernel)]; kernel_rfl) | (rw [if_neg (by decide +kernel)]; exact ⟨rfl, rfl⟩))
    (fun os started H enc _ F => by rw [OpenClaim.pre_eq_preRow]; exact lifted os started H enc F)
theorem plain (f : FuncId) (fn : Func) (hf : Tryd.pinned.checked.prog.funcNamed "holdfast/holdfasttop.TopNoted" = some f) (hfn : Tryd.pinned.checked.prog.funcs[f]? = some fn) :
    false = Tryd.pinned.checked.prog.looks [] ∧ ∀ (j : Nat) t, fn.params[j]? = some t → Tryd.pinned.checked.prog.wantsStandIn t = false := by
  obtain rfl : f = 4 := Option.some.inj ((show Tryd.prog.funcNamed "holdfast/holdfasttop.TopNoted" = some 4 by kernel_rfl).symm.trans hf) |>.symm
  obtain rfl : fn = Tryd.f4 := (Option.some.inj (Tryd.func4.symm.trans hfn)).symm
  refine ⟨by kernel_rfl, fun j t ht => ?_⟩
  have ht2 : Tryd.f4.params.toList[j]? = some t := by simpa using ht
  rw [show Tryd.f4.params.toList = [25] by kernel_rfl] at ht2
  have hm := List.mem_of_getElem? ht2
  have all : ∀ t ∈ ([25] : List Nat), Tryd.prog.wantsStandIn t = false := by
    intro t ht
    have := List.all_eq_true.1 (show ([25] : List Nat).all (fun t => Tryd.prog.wantsStandIn t == false) = true by kernel_rfl) t ht
    simpa using this
  exact all t hm
theorem proved : Rows.TopNotedCardSaid :=
  Claim7.holds_tied_plain_at .later [] _ _ _ _ said (fun _ h => by cases h) (by kernel_rfl) (fun _ h => by cases h) topNoted_row_tie rfl ⟨rfl, rfl⟩ (by kernel_rfl) rfl plain (by kernel_rfl)
#print axioms proved
end Go.Proofs.YtmnaalpjhkkglaaDoor.Noted
