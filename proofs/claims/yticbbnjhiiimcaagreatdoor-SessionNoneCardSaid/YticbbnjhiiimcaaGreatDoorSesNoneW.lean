/-
  SessionNone: the walk.
-/
import Derived.Test.YticbbnjhiiimcaaGreatDoorSesF
import Derived.Test.YticbbnjhiiimcaaGreatDoorElems
set_option linter.all false
set_option maxRecDepth 100000
namespace Go.Proofs.YticbbnjhiiimcaaGreatDoor.None
open Go Hold Go.ChangeShapes Go.WideShapes Go.ChangeAt Go.RowKit
variable {E : World0} {w : World} {H R : HP} {K : Value → World → Prop}
theorem u23n : ∃ f0 f1 : Field, prog.underlying 23 = some (.struct #[f0, f1]) ∧ f0.type = 9 ∧ f0.offset = 0 ∧ f1.type = 9 ∧ f1.offset = 1 :=
  ⟨(prog.fieldsOf 23).toList.getD 0 default, (prog.fieldsOf 23).toList.getD 1 default, by kernel_rfl, by kernel_rfl, by kernel_rfl, by kernel_rfl, by kernel_rfl⟩
section
variable {W : World} {H : Type} {enc : TypeId × Value → H}
theorem own_of {n : Nat} {cs : List Value} {D : DataW H × List MemPlace} (h : DataW.trod enc prog W 0 (fun _ => true) true n 23 cs = some D) : ∃ o : Own2, cs = ocells o ∧ True := by
  obtain ⟨f0, f1, hu, t0, o0, t1, o1⟩ := u23n
  obtain ⟨xs, m, _, _, hl, hlen, hf⟩ := DataW.trod_struct hu h
  rw [show prog.cellsOf 23 = 2 by kernel_rfl] at hl
  have c9 : prog.cellsOf 9 = 1 := by kernel_rfl
  match xs, hlen, cs, hl with
  | [y0, y1], _, [a, b], _ =>
    have g0 := hf 0 f0 rfl
    have g1 := hf 1 f1 rfl
    simp only [t0, o0, t1, o1, c9, List.drop, List.take] at g0 g1
    obtain ⟨s0, e0, _, z0⟩ := DataW.trod_string ul_9.ul g0
    obtain ⟨s1, e1, _, z1⟩ := DataW.trod_string ul_9.ul g1
    simp only [List.cons.injEq, and_true] at e0 e1
    subst e0 e1
    exact ⟨⟨s0.data.toList, s1.data.toList⟩, by simp [ocells, tv], trivial⟩
variable {r : Reach} {b0 : Nat} {v : Value} {d : DataW H} {p : List MemPlace}
theorem open_own (hv : Value.okWide prog W r b0 23 v) (h : DataW.Trod enc prog W 0 (fun _ => true) true 23 v d p) (_hw : ∀ n ∈ d.weights prog 23, n ≤ 140737488351232) : ∃ o : Own2, v = .agg (ocells o).toArray ∧ True := by
  obtain ⟨_, _, hu, _⟩ := u23n
  obtain ⟨cs, rfl, _⟩ := okWide_struct hu hv
  obtain ⟨fuel, hf⟩ := h
  obtain ⟨x, e, s⟩ := own_of hf
  simp only [Value.cells] at e
  exact ⟨x, by rw [← e], trivial⟩
end
theorem time_nil {now : Int} (k : K (.int .i64 1) w) : Calls prog 15 #[.pointer none, .int .i64 now] w (Ret K) := by
  refine c15 ?_
  unfold B15
  simp only [↓o_eqPtr, Option.isNone_none, ↓cd_true]
  exact k
theorem Begin_nil (h : sat E w H) {o : Own2} {now : Int} (k : ∀ w', sat E w' H → K (.tuple #[sv zeroS, .int .i64 1]) w') : Calls prog 4 #[.pointer none, .agg (ocells o).toArray, .int .i64 now] w (Ret K) := by
  refine c4 ?_
  unfold B4
  refine box_sl h fun ob w h => ?_
  refine ses_new h fun r w h => ?_
  simp only [↓o_eqPtr, Option.isNone_none, ↓cd_true]
  refine zeroS_build ?_
  exact ses_ret (b := r) (x := zeroS) h fun w h => k w h.drop.drop
theorem Get_nil (h : sat E w H) {id now : Int} (k : ∀ w', sat E w' H → K (.tuple #[sv zeroS, .int .i64 1]) w') : Calls prog 6 #[.pointer none, .int .i64 id, .int .i64 now] w (Ret K) := by
  refine c6 ?_
  unfold B6
  refine ses_new h fun r w h => ?_
  refine time_nil ?_
  simp only [show decide ((1 : Int) = 0) = false from rfl, ↓o_nil, ↓o_field, ↓o_add, ↓o_sub, ↓o_mul, ↓o_lss, ↓o_leq, ↓o_gtr, ↓o_geq, ↓o_not, ↓o_pick, ↓o_eqInt, ↓o_neInt, ↓o_eqBool, ↓o_neBool, ↓o_eqPtr, ↓o_nePtr, ↓o_eqPtr', ↓o_eqSl, ↓o_neSl, ↓o_eqStr, ↓o_neStr, ↓o_len, ↓o_lenS, ↓o_min, ↓o_max, ↓o_extract, ↓o_convInt, ↓cd_true, ↓cd_false, ↓gate_tt, ↓gate_ff, ↓gate_tf, ↓gate_ft, ↓gate_undef, ↓o_bind, ↓stay_v, ↓pop_cons, ↓fin_nil, Option.isNone_none, Option.isNone_some, Bool.not_true, Bool.not_false, Nat.zero_add, decide_true, decide_false, if_true, if_false, Bool.false_eq_true, ↓reduceIte]
  refine zeroS_build ?_
  exact ses_ret (b := r) (x := zeroS) h fun w h => k w h.drop
theorem Touch_nil (h : sat E w H) {id now : Int} (k : ∀ w', sat E w' H → K (.tuple #[sv zeroS, .int .i64 1]) w') : Calls prog 5 #[.pointer none, .int .i64 id, .int .i64 now] w (Ret K) := by
  refine c5 ?_
  unfold B5
  refine ses_new h fun r w h => ?_
  refine Get_nil h fun w h => ?_
  rw [o_extract, o_extract]
  refine ses_in h fun sb w h => ?_
  refine jn_cut (fun σ w => σ = [] ∧ sat E w (pts sb (.cells (scells zeroS).toArray 26 (0, 0)) * (pts r (.cells (scells zeroS).toArray 26 (0, 0)) * H))) (fun kj hkj => ?_) ?_
  · rw [o_eqInt, show decide ((1 : Int) = 0) = false from rfl, cd_false]
    exact hkj _ _ ⟨rfl, h⟩
  · clear h
    rintro σ w ⟨rfl, h⟩
    rw [fin_nil]
    refine ld_agg (b := sb) (xs := scells zeroS) h rfl ?_
    exact ses_ret (b := r) (x := zeroS) (y := zeroS) h fun w h => k w h.drop.drop
theorem Sweep_nil (h : sat E w H) {now : Int} (k : ∀ w', sat E w' H → K (.tuple #[.slice none 0 0, .int .i64 1]) w') : Calls prog 7 #[.pointer none, .int .i64 now] w (Ret K) := by
  refine c7 ?_
  unfold B7
  refine box_sl h fun nb w h => ?_
  have h : sat E w (boxN nb now * H) := h
  refine ld_in (b := nb) (v := .int .i64 now) h rfl ?_
  refine time_nil ?_
  simp only [show decide ((1 : Int) = 0) = false from rfl, ↓o_nil, ↓o_field, ↓o_add, ↓o_sub, ↓o_mul, ↓o_lss, ↓o_leq, ↓o_gtr, ↓o_geq, ↓o_not, ↓o_pick, ↓o_eqInt, ↓o_neInt, ↓o_eqBool, ↓o_neBool, ↓o_eqPtr, ↓o_nePtr, ↓o_eqPtr', ↓o_eqSl, ↓o_neSl, ↓o_eqStr, ↓o_neStr, ↓o_len, ↓o_lenS, ↓o_min, ↓o_max, ↓o_extract, ↓o_convInt, ↓cd_true, ↓cd_false, ↓gate_tt, ↓gate_ff, ↓gate_tf, ↓gate_ft, ↓gate_undef, ↓o_bind, ↓stay_v, ↓pop_cons, ↓fin_nil, Option.isNone_none, Option.isNone_some, Bool.not_true, Bool.not_false, Nat.zero_add, decide_true, decide_false, if_true, if_false, Bool.false_eq_true, ↓reduceIte]
  exact k w h.drop
theorem Live_nil (h : sat E w H) {o : Own2} {now : Int} (k : ∀ w', sat E w' H → K (.tuple #[.slice none 0 0, .int .i64 1]) w') : Calls prog 8 #[.pointer none, .agg (ocells o).toArray, .int .i64 now] w (Ret K) := by
  refine c8 ?_
  unfold B8
  refine box_sl h fun ob w h => ?_
  refine box_sl h fun nb w h => ?_
  have h : sat E w (boxN nb now * _) := h
  refine ld_in (b := nb) (v := .int .i64 now) h rfl ?_
  refine time_nil ?_
  simp only [show decide ((1 : Int) = 0) = false from rfl, ↓o_nil, ↓o_field, ↓o_add, ↓o_sub, ↓o_mul, ↓o_lss, ↓o_leq, ↓o_gtr, ↓o_geq, ↓o_not, ↓o_pick, ↓o_eqInt, ↓o_neInt, ↓o_eqBool, ↓o_neBool, ↓o_eqPtr, ↓o_nePtr, ↓o_eqPtr', ↓o_eqSl, ↓o_neSl, ↓o_eqStr, ↓o_neStr, ↓o_len, ↓o_lenS, ↓o_min, ↓o_max, ↓o_extract, ↓o_convInt, ↓cd_true, ↓cd_false, ↓gate_tt, ↓gate_ff, ↓gate_tf, ↓gate_ft, ↓gate_undef, ↓o_bind, ↓stay_v, ↓pop_cons, ↓fin_nil, Option.isNone_none, Option.isNone_some, Bool.not_true, Bool.not_false, Nat.zero_add, decide_true, decide_false, if_true, if_false, Bool.false_eq_true, ↓reduceIte]
  exact k w h.drop.drop
theorem End_nil {id : Int} (k : K (.int .i64 1) w) : Calls prog 10 #[.pointer none, .int .i64 id] w (Ret K) := by
  refine c10 ?_
  unfold B10
  simp only [↓o_eqPtr, Option.isNone_none, ↓cd_true]
  exact k
theorem EndAll_nil (h : sat E w H) {o : Own2} (k : ∀ w', sat E w' H → K (.slice none 0 0) w') : Calls prog 11 #[.pointer none, .agg (ocells o).toArray] w (Ret K) := by
  refine c11 ?_
  unfold B11
  refine box_sl h fun ob w h => ?_
  simp only [↓o_eqPtr, Option.isNone_none, ↓cd_true]
  exact k w h.drop
theorem Rows_nil (k : K (.slice none 0 0) w) : Calls prog 12 #[.pointer none] w (Ret K) := by
  refine c12 ?_
  unfold B12
  simp only [↓o_eqPtr, Option.isNone_none, ↓cd_true]
  exact k
theorem Fork_nil (k : K (.pointer none) w) : Calls prog 13 #[.pointer none] w (Ret K) := by
  refine c13 ?_
  unfold B13
  simp only [↓o_eqPtr, Option.isNone_none, ↓cd_true]
  exact k
theorem None_spec (h : sat E w H) (o : Own2) (n : Int) (_mn : -9223372036854775808 ≤ n ∧ n ≤ 9223372036854775807) (k : ∀ w', sat E w' H → K (.bool true) w') : Calls prog 3 #[.agg (ocells o).toArray, .int .i64 n] w (Ret K) := by
  have t0 : ∀ n : Int, decide (n = n) = true := fun n => decide_eq_true rfl
  have t1 : decide (((0 : Nat) : Int) = 0) = true := rfl
  refine c3 ?_
  unfold B3
  refine box_sl h fun ob w h => ?_
  have h : sat E w (boxO ob o * H) := h
  refine ld_agg (b := ob) (xs := ocells o) h rfl ?_
  refine Begin_nil h fun w h => ?_
  rw [o_extract, o_extract]
  refine ses_in h fun b1 w h => ?_
  refine Touch_nil h fun w h => ?_
  rw [o_extract, o_extract]
  refine ses_in h fun b2 w h => ?_
  refine Get_nil h fun w h => ?_
  rw [o_extract, o_extract]
  refine ses_in h fun b3 w h => ?_
  refine Sweep_nil h fun w h => ?_
  rw [o_extract, o_extract]
  refine ld_agg (b := ob) (xs := ocells o) h rfl ?_
  refine Live_nil h fun w h => ?_
  rw [o_extract, o_extract]
  refine live_spec h fun w h => ?_
  try simp only [t0, t1, ↓o_nil, ↓o_field, ↓o_add, ↓o_sub, ↓o_mul, ↓o_lss, ↓o_leq, ↓o_gtr, ↓o_geq, ↓o_not, ↓o_pick, ↓o_eqInt, ↓o_neInt, ↓o_eqBool, ↓o_neBool, ↓o_eqPtr, ↓o_nePtr, ↓o_eqPtr', ↓o_eqSl, ↓o_neSl, ↓o_eqStr, ↓o_neStr, ↓o_len, ↓o_lenS, ↓o_min, ↓o_max, ↓o_extract, ↓o_convInt, ↓cd_true, ↓cd_false, ↓gate_tt, ↓gate_ff, ↓gate_tf, ↓gate_ft, ↓gate_undef, ↓o_bind, ↓stay_v, ↓pop_cons, ↓fin_nil, Option.isNone_none, Option.isNone_some, Bool.not_true, Bool.not_false, Nat.zero_add, decide_true, decide_false, if_true, if_false, Bool.false_eq_true, ↓reduceIte]
  refine End_nil ?_
  try simp only [t0, t1, ↓o_nil, ↓o_field, ↓o_add, ↓o_sub, ↓o_mul, ↓o_lss, ↓o_leq, ↓o_gtr, ↓o_geq, ↓o_not, ↓o_pick, ↓o_eqInt, ↓o_neInt, ↓o_eqBool, ↓o_neBool, ↓o_eqPtr, ↓o_nePtr, ↓o_eqPtr', ↓o_eqSl, ↓o_neSl, ↓o_eqStr, ↓o_neStr, ↓o_len, ↓o_lenS, ↓o_min, ↓o_max, ↓o_extract, ↓o_convInt, ↓cd_true, ↓cd_false, ↓gate_tt, ↓gate_ff, ↓gate_tf, ↓gate_ft, ↓gate_undef, ↓o_bind, ↓stay_v, ↓pop_cons, ↓fin_nil, Option.isNone_none, Option.isNone_some, Bool.not_true, Bool.not_false, Nat.zero_add, decide_true, decide_false, if_true, if_false, Bool.false_eq_true, ↓reduceIte]
  refine ld_agg (b := ob) (xs := ocells o) h rfl ?_
  try simp only [t0, t1, ↓o_nil, ↓o_field, ↓o_add, ↓o_sub, ↓o_mul, ↓o_lss, ↓o_leq, ↓o_gtr, ↓o_geq, ↓o_not, ↓o_pick, ↓o_eqInt, ↓o_neInt, ↓o_eqBool, ↓o_neBool, ↓o_eqPtr, ↓o_nePtr, ↓o_eqPtr', ↓o_eqSl, ↓o_neSl, ↓o_eqStr, ↓o_neStr, ↓o_len, ↓o_lenS, ↓o_min, ↓o_max, ↓o_extract, ↓o_convInt, ↓cd_true, ↓cd_false, ↓gate_tt, ↓gate_ff, ↓gate_tf, ↓gate_ft, ↓gate_undef, ↓o_bind, ↓stay_v, ↓pop_cons, ↓fin_nil, Option.isNone_none, Option.isNone_some, Bool.not_true, Bool.not_false, Nat.zero_add, decide_true, decide_false, if_true, if_false, Bool.false_eq_true, ↓reduceIte]
  refine EndAll_nil h fun w h => ?_
  try simp only [t0, t1, ↓o_nil, ↓o_field, ↓o_add, ↓o_sub, ↓o_mul, ↓o_lss, ↓o_leq, ↓o_gtr, ↓o_geq, ↓o_not, ↓o_pick, ↓o_eqInt, ↓o_neInt, ↓o_eqBool, ↓o_neBool, ↓o_eqPtr, ↓o_nePtr, ↓o_eqPtr', ↓o_eqSl, ↓o_neSl, ↓o_eqStr, ↓o_neStr, ↓o_len, ↓o_lenS, ↓o_min, ↓o_max, ↓o_extract, ↓o_convInt, ↓cd_true, ↓cd_false, ↓gate_tt, ↓gate_ff, ↓gate_tf, ↓gate_ft, ↓gate_undef, ↓o_bind, ↓stay_v, ↓pop_cons, ↓fin_nil, Option.isNone_none, Option.isNone_some, Bool.not_true, Bool.not_false, Nat.zero_add, decide_true, decide_false, if_true, if_false, Bool.false_eq_true, ↓reduceIte]
  refine Rows_nil ?_
  try simp only [t0, t1, ↓o_nil, ↓o_field, ↓o_add, ↓o_sub, ↓o_mul, ↓o_lss, ↓o_leq, ↓o_gtr, ↓o_geq, ↓o_not, ↓o_pick, ↓o_eqInt, ↓o_neInt, ↓o_eqBool, ↓o_neBool, ↓o_eqPtr, ↓o_nePtr, ↓o_eqPtr', ↓o_eqSl, ↓o_neSl, ↓o_eqStr, ↓o_neStr, ↓o_len, ↓o_lenS, ↓o_min, ↓o_max, ↓o_extract, ↓o_convInt, ↓cd_true, ↓cd_false, ↓gate_tt, ↓gate_ff, ↓gate_tf, ↓gate_ft, ↓gate_undef, ↓o_bind, ↓stay_v, ↓pop_cons, ↓fin_nil, Option.isNone_none, Option.isNone_some, Bool.not_true, Bool.not_false, Nat.zero_add, decide_true, decide_false, if_true, if_false, Bool.false_eq_true, ↓reduceIte]
  refine Fork_nil ?_
  try simp only [t0, t1, ↓o_nil, ↓o_field, ↓o_add, ↓o_sub, ↓o_mul, ↓o_lss, ↓o_leq, ↓o_gtr, ↓o_geq, ↓o_not, ↓o_pick, ↓o_eqInt, ↓o_neInt, ↓o_eqBool, ↓o_neBool, ↓o_eqPtr, ↓o_nePtr, ↓o_eqPtr', ↓o_eqSl, ↓o_neSl, ↓o_eqStr, ↓o_neStr, ↓o_len, ↓o_lenS, ↓o_min, ↓o_max, ↓o_extract, ↓o_convInt, ↓cd_true, ↓cd_false, ↓gate_tt, ↓gate_ff, ↓gate_tf, ↓gate_ft, ↓gate_undef, ↓o_bind, ↓stay_v, ↓pop_cons, ↓fin_nil, Option.isNone_none, Option.isNone_some, Bool.not_true, Bool.not_false, Nat.zero_add, decide_true, decide_false, if_true, if_false, Bool.false_eq_true, ↓reduceIte]
  exact k _ h.drop.drop.drop.drop
end Go.Proofs.YticbbnjhiiimcaaGreatDoor.None
