/-
  TopBooked: for every password and every number of rotations the law returns true.
-/
import Derived.Test.YtmnaalpjhkkglaaGreatDoorTopBookedW
import Derived.Test.YtmnaalpjhkkglaaGreatDoorCodH
import Derived.Test.YtmnaalpjhkkglaaGreatDoorLays
import Derived.Test.YtmnaalpjhkkglaaGreatDoorCard
import Derived.Test.YtmnaalpjhkkglaaGreatDoorCards
import Derived.Test.YtmnaalpjhkkglaaGreatDoorTie
set_option linter.all false
set_option maxRecDepth 100000
namespace Go.Proofs.YtmnaalpjhkkglaaGreatDoor.Booked
open Go Hold Go.ChangeShapes Go.WideShapes Go.ChangeAt Go.RowKit
theorem walk (W : World) {H : Type} (enc : TypeId × Value → H) (args : Array Value) (ds : List (DataW H)) (ps : List MemPlace)
    (hval : ∀ (j : Nat) t v, Tryz.f4.params.toList[j]? = some t → args.toList[j]? = some v → ∃ base, Value.okWide Tryz.checked.prog W .any base t v)
    (hA : DataW.TrodAll enc Tryz.checked.prog W 0 (fun _ => true) true Tryz.f4.params.toList args.toList ds ps)
    (hw : ∀ (j : Nat) t d, Tryz.f4.params.toList[j]? = some t → ds[j]? = some d → ∀ n ∈ d.weights Tryz.checked.prog t, n ≤ 140737488351232) (hL : laidMetH Tryz.checked.prog Rows.topBookedRow.laid W) :
    Calls Tryz.checked.prog 4 args W (Ret fun v W' => v = .bool true ∧ Below W.heap.size W W') := by
  rw [show Tryz.f4.params.toList = [9, 5] by kernel_rfl] at hval hA hw
  obtain ⟨v0, vs0, d0, ds0, p0, q0, hargs, rfl, rfl, h0, r0'⟩ := trodAll_cons hA
  obtain ⟨v1, vs1, d1, ds1, p1, q1, rfl, rfl, rfl, h1, r1'⟩ := trodAll_cons r0'
  obtain ⟨rfl, rfl, rfl⟩ := trodAll_nil r1'
  obtain rfl : args = #[v0, v1] := by cases args; simp_all
  obtain ⟨b0, o0⟩ := hval 0 9 v0 rfl rfl
  obtain ⟨b1, o1⟩ := hval 1 5 v1 rfl rfl
  obtain ⟨x0, rfl, mx0⟩ := open_textS (t := 9) (by kernel_rfl) o0 h0 (hw 0 9 d0 rfl rfl)
  obtain ⟨x1, rfl⟩ := open_u8G (t := 5) (by kernel_rfl) o1 h1
  exact Booked_spec (sat.start W) (dbt_of hL) x0 mx0 x1 fun w' h => ⟨rfl, sat.below (h.whole)⟩

noncomputable def laidWorld (os : Os) : World := layAllS Tryz.prog Rows.topBookedRow.laid (World.holding Tryz.prog os ⟨#[], #[], []⟩)
theorem laid_met (os : Os) : laidMet Tryz.prog Rows.topBookedRow.laid ((laidWorld os).forCall (fun _ _ => 0) ⟨#[], #[.string ⟨#[]⟩, .int .u8 0], []⟩).memory :=
  laidMet_of_run' 8 (by kernel_rfl) (by kernel_rfl)
theorem reads (os : Os) {H : Type} (enc : TypeId × Value → H) : ∃ x : List (DataW H) × List (DataW H) × List MemPlace, DataW.whole enc Tryz.prog ((laidWorld os).forCall (fun _ _ => 0) ⟨#[], #[.string ⟨#[]⟩, .int .u8 0], []⟩).memory Tryz.f4.params.toList Rows.topBookedSpec.vars false #[.string ⟨#[]⟩, .int .u8 0].toList 8 = some x :=
  Option.isSome_iff_exists.1 (by kernel_rfl)

theorem lifted (os : Os) (started : os.Started) (H : Type) (enc : TypeId × Value → H) (F : Stop.Interp) :
    ReturnsInHanded {} Tryz.checked os 4 .any ((OpenSpec.ofChange Rows.topBookedSpec).preRow enc Tryz.prog Tryz.f4 Rows.topBookedRow.domain false Rows.topBookedRow.laid) (((OpenSpec.ofChange Rows.topBookedSpec).at F).post enc Tryz.prog Tryz.f4 false true false false) := by
  refine law_liftedC (C := Tryz.checked) (tb := 4) (by kernel_rfl) started (by kernel_rfl) Tryz.func4
    (witness_row_at (enc := enc) (C := Tryz.checked) false (laidWorld os) #[.string ⟨#[]⟩, .int .u8 0] rfl (by kernel_rfl) (by kernel_rfl) (by kernel_rfl)
      (OpenSpec.preRow_of_cond 8 (x := ([.lit (.string []), .lit (.int .u8 0)], [], [])) (by kernel_rfl) (by kernel_rfl) (fun k hk => by cases hk) (by kernel_rfl) (laid_met os)))
    (by kernel_rfl) (by kernel_rfl) (by kernel_rfl) (by kernel_rfl) rfl ?_ ?_
  · intro ds hd
    rw [show Tryz.f4.params.toList = [9, 5] by kernel_rfl] at hd
    match ds, hd with
    | [a0, a1], _ => rfl
  · exact fun W args ds ps => walk W enc args ds ps

theorem said : Rows.TopBookedSaid :=
  OpenClaim.holds_of_cond 4 Tryz.f4 rfl rfl rfl rfl rfl rfl rfl ⟨rfl, rfl, rfl, rfl, rfl⟩ rfl rfl rfl rfl rfl (by kernel_rfl) Tryz.func4 (by kernel_rfl)
    (of_decide_eq_true (by kernel_rfl)) (by unfold Func.isWrapper; first | (rw [if_pos (by decide +kernel)]; kernel_rfl) | (rw [if_neg (by decide +kernel)]; exact ⟨rfl, rfl⟩))
    (fun os started H enc _ F => by rw [OpenClaim.pre_eq_preRow]; exact lifted os started H enc F)
theorem plain (f : FuncId) (fn : Func) (hf : Tryz.pinned.checked.prog.funcNamed "holdfast/holdfasttop.TopBooked" = some f) (hfn : Tryz.pinned.checked.prog.funcs[f]? = some fn) :
    true = Tryz.pinned.checked.prog.looks [] ∧ ∀ (j : Nat) t, fn.params[j]? = some t → Tryz.pinned.checked.prog.wantsStandIn t = false := by
  obtain rfl : f = 4 := Option.some.inj ((show Tryz.prog.funcNamed "holdfast/holdfasttop.TopBooked" = some 4 by kernel_rfl).symm.trans hf) |>.symm
  obtain rfl : fn = Tryz.f4 := (Option.some.inj (Tryz.func4.symm.trans hfn)).symm
  refine ⟨by kernel_rfl, fun j t ht => ?_⟩
  have ht2 : Tryz.f4.params.toList[j]? = some t := by simpa using ht
  rw [show Tryz.f4.params.toList = [9, 5] by kernel_rfl] at ht2
  have hm := List.mem_of_getElem? ht2
  have all : ∀ t ∈ ([9, 5] : List Nat), Tryz.prog.wantsStandIn t = false := by
    intro t ht
    have := List.all_eq_true.1 (show ([9, 5] : List Nat).all (fun t => Tryz.prog.wantsStandIn t == false) = true by kernel_rfl) t ht
    simpa using this
  exact all t hm
theorem proved : Rows.TopBookedCardSaid :=
  Claim7.holds_tied_plain_at .later [] _ _ _ _ said (fun _ h => by cases h) (by kernel_rfl) (fun _ h => by cases h) topBooked_row_tie rfl ⟨rfl, rfl⟩ (by kernel_rfl) rfl plain (by kernel_rfl)
#print axioms proved
end Go.Proofs.YtmnaalpjhkkglaaGreatDoor.Booked
