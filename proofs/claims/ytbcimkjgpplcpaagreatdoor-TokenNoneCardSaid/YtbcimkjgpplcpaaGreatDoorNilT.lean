/-
  What must be whatever is asked of tokens.
-/
import Derived.Test.YtbcimkjgpplcpaaGreatDoorTokF
set_option linter.all false
set_option maxRecDepth 100000
namespace Go.Proofs.YtbcimkjgpplcpaaGreatDoor.T
open Go Hold
variable {E : World0} {w : World} {H R X : HP} {K : Value → World → Prop}
theorem live_spec (h : sat E w H) (k : ∀ w', sat E w' H → K (.bool true) w') : Calls prog 8 #[] w (Ret K) := by
  have t0 : ∀ n : Int, decide (n = n) = true := fun n => decide_eq_true rfl
  refine c8 ?_
  unfold B8
  refine New_spec h fun p b c w h => ?_
  simp only [↓o_eqPtr, Option.isNone_some, ↓cd_false]
  refine Grant_spec (ses := 1) (cl := [99]) (sc := 3) (now := 0) ok_newS (by omega) (by decide) h fun w h => ?_
  have e1 : grantT newS 1 [99] 3 0 = (⟨2, 2, 0, [⟨1, 1, [99], 3, 1⟩], [⟨1, 1, 3, 50⟩]⟩, ⟨1, 1, [99], 3, 1⟩, ⟨1, 1, 3, 50⟩, 0) := by rfl
  have ok1 := ok_grant (ses := 1) (cl := [99]) (sc := 3) (now := 0) ok_newS
  rw [e1] at h ok1 ⊢
  rw [o_extract, o_extract, o_extract]
  refine two_in h fun fb tb w h => ?_
  have h := h.perm (show _ = sI p ⟨2, 2, 0, [⟨1, 1, [99], 3, 1⟩], [⟨1, 1, 3, 50⟩]⟩ b c (pts tb (.cells (kcells ⟨1, 1, 3, 50⟩).toArray 49 (0, 0)) * (pts fb (.cells (fcells ⟨1, 1, [99], 3, 1⟩).toArray 35 (0, 0)) * H)) by unfold sI; ac_rfl)
  refine Refresh_spec (fam := 1) (num := 1) (now := 10) ok1 (by omega) h fun w h => ?_
  have e2 : refT ⟨2, 2, 0, [⟨1, 1, [99], 3, 1⟩], [⟨1, 1, 3, 50⟩]⟩ 1 1 10 = (⟨2, 3, 10, [⟨1, 1, [99], 3, 2⟩], [⟨1, 1, 3, 50⟩, ⟨2, 1, 3, 60⟩]⟩, ⟨1, 1, [99], 3, 2⟩, ⟨2, 1, 3, 60⟩, 0) := by rfl
  have ok2 := ok_ref (fam := 1) (num := 1) (now := 10) ok1
  rw [e2] at h ok2 ⊢
  rw [o_extract, o_extract, o_extract]
  refine two_in h fun gb ub w h => ?_
  have h := h.perm (show _ = sI p ⟨2, 3, 10, [⟨1, 1, [99], 3, 2⟩], [⟨1, 1, 3, 50⟩, ⟨2, 1, 3, 60⟩]⟩ b c (pts ub (.cells (kcells ⟨2, 1, 3, 60⟩).toArray 49 (0, 0)) * (pts gb (.cells (fcells ⟨1, 1, [99], 3, 2⟩).toArray 35 (0, 0)) * (pts tb (.cells (kcells ⟨1, 1, 3, 50⟩).toArray 49 (0, 0)) * (pts fb (.cells (fcells ⟨1, 1, [99], 3, 1⟩).toArray 35 (0, 0)) * H)))) by unfold sI; ac_rfl)
  refine Refresh_spec (fam := 1) (num := 1) (now := 11) ok2 (by omega) h fun w h => ?_
  have e3 : refT ⟨2, 3, 10, [⟨1, 1, [99], 3, 2⟩], [⟨1, 1, 3, 50⟩, ⟨2, 1, 3, 60⟩]⟩ 1 1 11 = (⟨2, 3, 11, [], []⟩, zeroF, zeroK, 13) := by rfl
  rw [e3] at h ⊢
  rw [o_extract, o_extract, o_extract]
  refine two_in h fun ab vb w h => ?_
  have h := h.perm (show _ = sI p ⟨2, 3, 11, [], []⟩ b c (pts vb (.cells (kcells zeroK).toArray 49 (0, 0)) * (pts ab (.cells (fcells zeroF).toArray 35 (0, 0)) * (pts ub (.cells (kcells ⟨2, 1, 3, 60⟩).toArray 49 (0, 0)) * (pts gb (.cells (fcells ⟨1, 1, [99], 3, 2⟩).toArray 35 (0, 0)) * (pts tb (.cells (kcells ⟨1, 1, 3, 50⟩).toArray 49 (0, 0)) * (pts fb (.cells (fcells ⟨1, 1, [99], 3, 1⟩).toArray 35 (0, 0)) * H)))))) by unfold sI; ac_rfl)
  refine Access_spec (id := 2) (now := 11) h fun w h => ?_
  have e4 : accT ⟨2, 3, 11, [], []⟩ 2 11 = (zeroK, 12) := by rfl
  rw [e4, o_extract, o_extract]
  refine tok_in h fun cb w h => ?_
  simp only [t0, ↓o_nil, ↓o_field, ↓o_add, ↓o_sub, ↓o_mul, ↓o_lss, ↓o_leq, ↓o_gtr, ↓o_geq, ↓o_not, ↓o_pick, ↓o_eqInt, ↓o_neInt, ↓o_eqBool, ↓o_neBool, ↓o_eqPtr, ↓o_nePtr, ↓o_eqPtr', ↓o_eqSl, ↓o_neSl, ↓o_eqStr, ↓o_neStr, ↓o_len, ↓o_lenS, ↓o_min, ↓o_max, ↓o_extract, ↓o_convInt, ↓cd_true, ↓cd_false, ↓gate_tt, ↓gate_ff, ↓gate_tf, ↓gate_ft, ↓gate_undef, ↓o_bind, ↓stay_v, ↓pop_cons, ↓fin_nil, Option.isNone_none, Option.isNone_some, Bool.not_true, Bool.not_false, Nat.zero_add, decide_true, decide_false, if_true, if_false, Bool.false_eq_true, ↓reduceIte]
  refine ld_in (b := fb) (v := .int .i64 1) h rfl ?_
  simp only [t0, ↓o_nil, ↓o_field, ↓o_add, ↓o_sub, ↓o_mul, ↓o_lss, ↓o_leq, ↓o_gtr, ↓o_geq, ↓o_not, ↓o_pick, ↓o_eqInt, ↓o_neInt, ↓o_eqBool, ↓o_neBool, ↓o_eqPtr, ↓o_nePtr, ↓o_eqPtr', ↓o_eqSl, ↓o_neSl, ↓o_eqStr, ↓o_neStr, ↓o_len, ↓o_lenS, ↓o_min, ↓o_max, ↓o_extract, ↓o_convInt, ↓cd_true, ↓cd_false, ↓gate_tt, ↓gate_ff, ↓gate_tf, ↓gate_ft, ↓gate_undef, ↓o_bind, ↓stay_v, ↓pop_cons, ↓fin_nil, Option.isNone_none, Option.isNone_some, Bool.not_true, Bool.not_false, Nat.zero_add, decide_true, decide_false, if_true, if_false, Bool.false_eq_true, ↓reduceIte]
  refine ld_in (b := tb) (v := .int .i64 50) h rfl ?_
  simp only [t0, ↓o_nil, ↓o_field, ↓o_add, ↓o_sub, ↓o_mul, ↓o_lss, ↓o_leq, ↓o_gtr, ↓o_geq, ↓o_not, ↓o_pick, ↓o_eqInt, ↓o_neInt, ↓o_eqBool, ↓o_neBool, ↓o_eqPtr, ↓o_nePtr, ↓o_eqPtr', ↓o_eqSl, ↓o_neSl, ↓o_eqStr, ↓o_neStr, ↓o_len, ↓o_lenS, ↓o_min, ↓o_max, ↓o_extract, ↓o_convInt, ↓cd_true, ↓cd_false, ↓gate_tt, ↓gate_ff, ↓gate_tf, ↓gate_ft, ↓gate_undef, ↓o_bind, ↓stay_v, ↓pop_cons, ↓fin_nil, Option.isNone_none, Option.isNone_some, Bool.not_true, Bool.not_false, Nat.zero_add, decide_true, decide_false, if_true, if_false, Bool.false_eq_true, ↓reduceIte]
  refine ld_in (b := gb) (v := .int .i64 2) h rfl ?_
  simp only [t0, ↓o_nil, ↓o_field, ↓o_add, ↓o_sub, ↓o_mul, ↓o_lss, ↓o_leq, ↓o_gtr, ↓o_geq, ↓o_not, ↓o_pick, ↓o_eqInt, ↓o_neInt, ↓o_eqBool, ↓o_neBool, ↓o_eqPtr, ↓o_nePtr, ↓o_eqPtr', ↓o_eqSl, ↓o_neSl, ↓o_eqStr, ↓o_neStr, ↓o_len, ↓o_lenS, ↓o_min, ↓o_max, ↓o_extract, ↓o_convInt, ↓cd_true, ↓cd_false, ↓gate_tt, ↓gate_ff, ↓gate_tf, ↓gate_ft, ↓gate_undef, ↓o_bind, ↓stay_v, ↓pop_cons, ↓fin_nil, Option.isNone_none, Option.isNone_some, Bool.not_true, Bool.not_false, Nat.zero_add, decide_true, decide_false, if_true, if_false, Bool.false_eq_true, ↓reduceIte]
  refine ld_in (b := ub) (v := .int .i64 2) h rfl ?_
  simp only [t0, ↓o_nil, ↓o_field, ↓o_add, ↓o_sub, ↓o_mul, ↓o_lss, ↓o_leq, ↓o_gtr, ↓o_geq, ↓o_not, ↓o_pick, ↓o_eqInt, ↓o_neInt, ↓o_eqBool, ↓o_neBool, ↓o_eqPtr, ↓o_nePtr, ↓o_eqPtr', ↓o_eqSl, ↓o_neSl, ↓o_eqStr, ↓o_neStr, ↓o_len, ↓o_lenS, ↓o_min, ↓o_max, ↓o_extract, ↓o_convInt, ↓cd_true, ↓cd_false, ↓gate_tt, ↓gate_ff, ↓gate_tf, ↓gate_ft, ↓gate_undef, ↓o_bind, ↓stay_v, ↓pop_cons, ↓fin_nil, Option.isNone_none, Option.isNone_some, Bool.not_true, Bool.not_false, Nat.zero_add, decide_true, decide_false, if_true, if_false, Bool.false_eq_true, ↓reduceIte]
  refine k w ?_
  have h := h.drop
  unfold sI at h
  exact h.drop.drop.drop.drop.drop.drop.drop.drop.drop
end Go.Proofs.YtbcimkjgpplcpaaGreatDoor.T

/-
  A nil store: every call answers at once.
-/
set_option linter.all false
set_option maxRecDepth 100000
namespace Go.Proofs.YtbcimkjgpplcpaaGreatDoor.T
open Go Hold
variable {E : World0} {w : World} {H R X : HP} {K : Value → World → Prop}
theorem time_nil {n : Value} (k : K (.int .i64 1) w) : Calls prog 47 #[.pointer none, n] w (Ret K) := by
  refine c47 ?_
  unfold B47
  simp only [↓o_nil, ↓o_field, ↓o_add, ↓o_sub, ↓o_mul, ↓o_lss, ↓o_leq, ↓o_gtr, ↓o_geq, ↓o_not, ↓o_pick, ↓o_eqInt, ↓o_neInt, ↓o_eqBool, ↓o_neBool, ↓o_eqPtr, ↓o_nePtr, ↓o_eqPtr', ↓o_eqSl, ↓o_neSl, ↓o_eqStr, ↓o_neStr, ↓o_len, ↓o_lenS, ↓o_min, ↓o_max, ↓o_extract, ↓o_convInt, ↓cd_true, ↓cd_false, ↓gate_tt, ↓gate_ff, ↓gate_tf, ↓gate_ft, ↓gate_undef, ↓o_bind, ↓stay_v, ↓pop_cons, ↓fin_nil, Option.isNone_none, Option.isNone_some, Bool.not_true, Bool.not_false, Nat.zero_add, decide_true, decide_false, if_true, if_false, Bool.false_eq_true, ↓reduceIte]
  exact k
theorem Grant_nil {s c a n : Value} (h : sat E w H) (k : ∀ w', sat E w' H → K (.tuple #[fv zeroF, kv zeroK, .int .i64 1]) w') : Calls prog 17 #[.pointer none, s, c, a, n] w (Ret K) := by
  refine c17 ?_
  unfold B17
  refine fam_new h fun fb w h => ?_
  refine tok_new h fun tb w h => ?_
  refine time_nil ?_
  rw [o_eqInt, decide_eq_true rfl]
  simp only [↓gate_tf, ↓gate_undef, ↓o_pick, if_true, ↓reduceIte, ↓cd_true]
  refine dr_sl h fun w h _ => ?_
  try simp only [↓o_bind]
  refine ld_agg (b := fb) (xs := fcells zeroF) h rfl ?_
  refine ld_agg (b := tb) (xs := kcells zeroK) h rfl ?_
  refine store_all (b := fb) h (xs := fcells zeroF) (vs := fcells zeroF) rfl rfl (fcells_one _) fun w h => ?_
  try simp only [↓stay_v]
  refine st_agg (b := tb) (xs := kcells zeroK) h rfl ?_
  refine store_all (b := tb) h (xs := kcells zeroK) (vs := kcells zeroK) rfl rfl (kcells_one _) fun w h => ?_
  refine res_agg (P := prog) (t := 35) (K := fun r w => ∃ r2, (do loadVar 49 (← asAddr (.pointer (some ⟨tb, 0, none⟩)))).run prog w = .ok r2 w ∧ K (.tuple #[r, r2, .int .i64 1]) w) h (b := fb) (xs := fcells zeroF) rfl ?_
  exact res_agg (P := prog) (t := 49) (K := fun r2 w => K (.tuple #[fv zeroF, r2, .int .i64 1]) w) h (b := tb) (xs := kcells zeroK) rfl (k w h.drop.drop)
theorem Refresh_nil {f m n : Value} (h : sat E w H) (k : ∀ w', sat E w' H → K (.tuple #[fv zeroF, kv zeroK, .int .i64 1]) w') : Calls prog 18 #[.pointer none, f, m, n] w (Ret K) := by
  refine c18 ?_
  unfold B18
  refine fam_new h fun fb w h => ?_
  refine tok_new h fun tb w h => ?_
  refine time_nil ?_
  refine fam_new h fun gb w h => ?_
  have h := h.drop
  refine jn_cut (fun σ w => σ = [.int .i64 1] ∧ sat E w (pts tb (.cells (kcells zeroK).toArray 49 (0, 0)) * (pts fb (.cells (fcells zeroF).toArray 35 (0, 0)) * H))) (fun k1 hk1 => ?_) ?_
  · rw [o_eqInt, show decide ((1 : Int) = 0) = false from rfl, cd_false]
    exact hk1 _ _ ⟨rfl, h⟩
  clear h
  rintro σ w ⟨rfl, h⟩
  rw [pop_cons, fin_nil]
  refine jn_cut (fun σ w => σ = [.int .i64 1] ∧ sat E w (pts tb (.cells (kcells zeroK).toArray 49 (0, 0)) * (pts fb (.cells (fcells zeroF).toArray 35 (0, 0)) * H))) (fun k1 hk1 => ?_) ?_
  · rw [o_neInt, show (!decide ((1 : Int) = 0)) = true from rfl, cd_true]
    exact hk1 _ _ ⟨rfl, h⟩
  clear h
  rintro σ w ⟨rfl, h⟩
  rw [pop_cons, fin_nil, o_neInt, show (!decide ((1 : Int) = 0)) = true from rfl, cd_true]
  refine zeroF_build ?_
  refine zeroK_build ?_
  refine store_all (b := fb) h (xs := fcells zeroF) (vs := fcells zeroF) rfl rfl (fcells_one _) fun w h => ?_
  refine store_all (b := tb) h (xs := kcells zeroK) (vs := kcells zeroK) rfl rfl (kcells_one _) fun w h => ?_
  refine res_agg (P := prog) (t := 35) (K := fun r w => ∃ r2, (do loadVar 49 (← asAddr (.pointer (some ⟨tb, 0, none⟩)))).run prog w = .ok r2 w ∧ K (.tuple #[r, r2, .int .i64 1]) w) h (b := fb) (xs := fcells zeroF) rfl ?_
  exact res_agg (P := prog) (t := 49) (K := fun r2 w => K (.tuple #[fv zeroF, r2, .int .i64 1]) w) h (b := tb) (xs := kcells zeroK) rfl (k w h.drop.drop)
theorem Access_nil {i n : Value} (h : sat E w H) (k : ∀ w', sat E w' H → K (.tuple #[kv zeroK, .int .i64 1]) w') : Calls prog 19 #[.pointer none, i, n] w (Ret K) := by
  refine c19 ?_
  unfold B19
  refine tok_new h fun tb w h => ?_
  refine time_nil ?_
  rw [o_neInt, show (!decide ((1 : Int) = 0)) = true from rfl, cd_true]
  refine zeroK_build ?_
  exact tok_ret (b := tb) (x := zeroK) h fun w h => k w h.drop
theorem Exchange_nil {i a n : Value} (h : sat E w H) (k : ∀ w', sat E w' H → K (.tuple #[kv zeroK, .int .i64 1]) w') : Calls prog 20 #[.pointer none, i, a, n] w (Ret K) := by
  refine c20 ?_
  unfold B20
  refine tok_new h fun tb w h => ?_
  refine Access_nil h fun w h => ?_
  rw [o_extract, o_extract]
  refine tok_in (x := zeroK) h fun vb w h => ?_
  rw [o_neInt, show (!decide ((1 : Int) = 0)) = true from rfl, cd_true]
  refine zeroK_build ?_
  have h := h.drop
  exact tok_ret (b := tb) (x := zeroK) h fun w h => k w h.drop
theorem Sweep_nil {n : Int} (h : sat E w H) (k : ∀ w', sat E w' H → K (.tuple #[.int .i64 0, .int .i64 1]) w') : Calls prog 21 #[.pointer none, .int .i64 n] w (Ret K) := by
  refine c21 ?_
  unfold B21
  refine box_sl h fun nb w h => ?_
  have h : sat E w (pts nb (.cells [Value.int .i64 n].toArray 3 (0, 0)) * H) := h
  refine ld_in (b := nb) (v := .int .i64 n) h rfl ?_
  refine time_nil ?_
  rw [o_neInt, show (!decide ((1 : Int) = 0)) = true from rfl, cd_true]
  exact k w h.drop
theorem Family_nil {i : Value} (h : sat E w H) (k : ∀ w', sat E w' H → K (.tuple #[fv zeroF, .int .i64 1]) w') : Calls prog 12 #[.pointer none, i] w (Ret K) := by
  refine c12 ?_
  unfold B12
  refine fam_new h fun fb w h => ?_
  rw [o_eqPtr, Option.isNone_none, cd_true]
  refine zeroF_build ?_
  exact fam_ret (b := fb) (x := zeroF) h fun w h => k w h.drop
theorem End_nil {f : Value} (k : K (.int .i64 1) w) : Calls prog 22 #[.pointer none, f] w (Ret K) := by
  refine c22 ?_
  unfold B22
  rw [o_eqPtr, Option.isNone_none, cd_true]
  exact k
theorem ends_nil {f : Value} (k : K (.slice none 0 0) w) : Calls prog 34 #[.pointer none, f] w (Ret K) := by
  refine c34 ?_
  unfold B34
  rw [o_eqPtr, Option.isNone_none, cd_true]
  exact k
theorem EndSessions_nil {a : Option Addr} {l c : Nat} (h : sat E w H) (k : ∀ w', sat E w' H → K (.slice none 0 0) w') : Calls prog 13 #[.pointer none, .slice a l c] w (Ret K) := by
  refine c13 ?_
  unfold B13
  refine box_sl h fun sb w h => ?_
  refine pvv_of (v := .func (.func 38) #[] #[.pointer (some ⟨sb, 0, none⟩)]) (fun w => by kernel_rfl) ?_
  refine ends_nil ?_
  exact k w h.drop
theorem EndClient_nil {cl : List UInt8} {a : Option Addr} {l c : Nat} (h : sat E w H) (k : ∀ w', sat E w' H → K (.slice none 0 0) w') : Calls prog 11 #[.pointer none, tv cl, .slice a l c] w (Ret K) := by
  refine c11 ?_
  unfold B11
  refine box_sl h fun cb w h => ?_
  refine box_sl h fun sb w h => ?_
  refine pvv_of (v := .func (.func 35) #[] #[.pointer (some ⟨cb, 0, none⟩), .pointer (some ⟨sb, 0, none⟩)]) (fun w => by kernel_rfl) ?_
  refine ends_nil ?_
  exact k w h.drop.drop
theorem Families_nil {n : Int} (h : sat E w H) (k : ∀ w', sat E w' H → K (.slice none 0 0) w') : Calls prog 15 #[.pointer none, .int .i64 n] w (Ret K) := by
  refine c15 ?_
  unfold B15
  refine box_sl h fun nb w h => ?_
  rw [o_eqPtr, Option.isNone_none, cd_true]
  exact k w h.drop
theorem Tokens_nil {n : Int} (h : sat E w H) (k : ∀ w', sat E w' H → K (.slice none 0 0) w') : Calls prog 14 #[.pointer none, .int .i64 n] w (Ret K) := by
  refine c14 ?_
  unfold B14
  refine box_sl h fun nb w h => ?_
  rw [o_eqPtr, Option.isNone_none, cd_true]
  exact k w h.drop
theorem Rows_nil (k : K (.slice none 0 0) w) : Calls prog 16 #[.pointer none] w (Ret K) := by
  refine c16 ?_
  unfold B16
  rw [o_eqPtr, Option.isNone_none, cd_true]
  exact k
theorem Fork_nil (k : K (.pointer none) w) : Calls prog 10 #[.pointer none] w (Ret K) := by
  refine c10 ?_
  unfold B10
  rw [o_eqPtr, Option.isNone_none, cd_true]
  exact k
theorem None_spec (h : sat E w H) (n : Int) (c : List UInt8) (k : ∀ w', sat E w' H → K (.bool true) w') : Calls prog 5 #[.int .i64 n, tv c] w (Ret K) := by
  refine c5 ?_
  unfold B5
  have t1 : decide ((1 : Int) = 1) = true := rfl
  have t0 : decide (((0 : Nat) : Int) = 0) = true := rfl
  refine Grant_nil h fun w h => ?_
  rw [o_extract, o_extract, o_extract]
  refine two_in (x := zeroF) (y := zeroK) h fun b1 b2 w h => ?_
  have h := h.drop.drop
  refine Refresh_nil h fun w h => ?_
  rw [o_extract, o_extract, o_extract]
  refine two_in (x := zeroF) (y := zeroK) h fun b1 b2 w h => ?_
  have h := h.drop.drop
  refine Access_nil h fun w h => ?_
  rw [o_extract, o_extract]
  refine tok_in (x := zeroK) h fun b1 w h => ?_
  have h := h.drop
  refine Exchange_nil h fun w h => ?_
  rw [o_extract, o_extract]
  refine tok_in (x := zeroK) h fun b1 w h => ?_
  have h := h.drop
  refine Sweep_nil h fun w h => ?_
  rw [o_extract, o_extract]
  refine Family_nil h fun w h => ?_
  rw [o_extract, o_extract]
  refine fam_in (x := zeroF) h fun b1 w h => ?_
  have h := h.drop
  refine live_spec h fun w h => ?_
  simp only [t1, ↓o_nil, ↓o_field, ↓o_add, ↓o_sub, ↓o_mul, ↓o_lss, ↓o_leq, ↓o_gtr, ↓o_geq, ↓o_not, ↓o_pick, ↓o_eqInt, ↓o_neInt, ↓o_eqBool, ↓o_neBool, ↓o_eqPtr, ↓o_nePtr, ↓o_eqPtr', ↓o_eqSl, ↓o_neSl, ↓o_eqStr, ↓o_neStr, ↓o_len, ↓o_lenS, ↓o_min, ↓o_max, ↓o_extract, ↓o_convInt, ↓cd_true, ↓cd_false, ↓gate_tt, ↓gate_ff, ↓gate_tf, ↓gate_ft, ↓gate_undef, ↓o_bind, ↓stay_v, ↓pop_cons, ↓fin_nil, Option.isNone_none, Option.isNone_some, Bool.not_true, Bool.not_false, Nat.zero_add, decide_true, decide_false, if_true, if_false, Bool.false_eq_true, ↓reduceIte]
  refine End_nil ?_
  simp only [t1, ↓o_nil, ↓o_field, ↓o_add, ↓o_sub, ↓o_mul, ↓o_lss, ↓o_leq, ↓o_gtr, ↓o_geq, ↓o_not, ↓o_pick, ↓o_eqInt, ↓o_neInt, ↓o_eqBool, ↓o_neBool, ↓o_eqPtr, ↓o_nePtr, ↓o_eqPtr', ↓o_eqSl, ↓o_neSl, ↓o_eqStr, ↓o_neStr, ↓o_len, ↓o_lenS, ↓o_min, ↓o_max, ↓o_extract, ↓o_convInt, ↓cd_true, ↓cd_false, ↓gate_tt, ↓gate_ff, ↓gate_tf, ↓gate_ft, ↓gate_undef, ↓o_bind, ↓stay_v, ↓pop_cons, ↓fin_nil, Option.isNone_none, Option.isNone_some, Bool.not_true, Bool.not_false, Nat.zero_add, decide_true, decide_false, if_true, if_false, Bool.false_eq_true, ↓reduceIte]
  refine buildSlice_sl (e := 3) (cs := #[.int .i64 n]) h (fun w => by kernel_rfl) fun b3 w h => ?_
  have h := h.drop
  refine EndSessions_nil h fun w h => ?_
  simp only [t0, ↓o_nil, ↓o_field, ↓o_add, ↓o_sub, ↓o_mul, ↓o_lss, ↓o_leq, ↓o_gtr, ↓o_geq, ↓o_not, ↓o_pick, ↓o_eqInt, ↓o_neInt, ↓o_eqBool, ↓o_neBool, ↓o_eqPtr, ↓o_nePtr, ↓o_eqPtr', ↓o_eqSl, ↓o_neSl, ↓o_eqStr, ↓o_neStr, ↓o_len, ↓o_lenS, ↓o_min, ↓o_max, ↓o_extract, ↓o_convInt, ↓cd_true, ↓cd_false, ↓gate_tt, ↓gate_ff, ↓gate_tf, ↓gate_ft, ↓gate_undef, ↓o_bind, ↓stay_v, ↓pop_cons, ↓fin_nil, Option.isNone_none, Option.isNone_some, Bool.not_true, Bool.not_false, Nat.zero_add, decide_true, decide_false, if_true, if_false, Bool.false_eq_true, ↓reduceIte]
  refine buildSlice_sl (e := 3) (cs := #[.int .i64 n]) h (fun w => by kernel_rfl) fun b3 w h => ?_
  have h := h.drop
  refine EndClient_nil h fun w h => ?_
  simp only [t0, ↓o_nil, ↓o_field, ↓o_add, ↓o_sub, ↓o_mul, ↓o_lss, ↓o_leq, ↓o_gtr, ↓o_geq, ↓o_not, ↓o_pick, ↓o_eqInt, ↓o_neInt, ↓o_eqBool, ↓o_neBool, ↓o_eqPtr, ↓o_nePtr, ↓o_eqPtr', ↓o_eqSl, ↓o_neSl, ↓o_eqStr, ↓o_neStr, ↓o_len, ↓o_lenS, ↓o_min, ↓o_max, ↓o_extract, ↓o_convInt, ↓cd_true, ↓cd_false, ↓gate_tt, ↓gate_ff, ↓gate_tf, ↓gate_ft, ↓gate_undef, ↓o_bind, ↓stay_v, ↓pop_cons, ↓fin_nil, Option.isNone_none, Option.isNone_some, Bool.not_true, Bool.not_false, Nat.zero_add, decide_true, decide_false, if_true, if_false, Bool.false_eq_true, ↓reduceIte]
  refine Families_nil h fun w h => ?_
  simp only [t0, ↓o_nil, ↓o_field, ↓o_add, ↓o_sub, ↓o_mul, ↓o_lss, ↓o_leq, ↓o_gtr, ↓o_geq, ↓o_not, ↓o_pick, ↓o_eqInt, ↓o_neInt, ↓o_eqBool, ↓o_neBool, ↓o_eqPtr, ↓o_nePtr, ↓o_eqPtr', ↓o_eqSl, ↓o_neSl, ↓o_eqStr, ↓o_neStr, ↓o_len, ↓o_lenS, ↓o_min, ↓o_max, ↓o_extract, ↓o_convInt, ↓cd_true, ↓cd_false, ↓gate_tt, ↓gate_ff, ↓gate_tf, ↓gate_ft, ↓gate_undef, ↓o_bind, ↓stay_v, ↓pop_cons, ↓fin_nil, Option.isNone_none, Option.isNone_some, Bool.not_true, Bool.not_false, Nat.zero_add, decide_true, decide_false, if_true, if_false, Bool.false_eq_true, ↓reduceIte]
  refine Tokens_nil h fun w h => ?_
  simp only [t0, ↓o_nil, ↓o_field, ↓o_add, ↓o_sub, ↓o_mul, ↓o_lss, ↓o_leq, ↓o_gtr, ↓o_geq, ↓o_not, ↓o_pick, ↓o_eqInt, ↓o_neInt, ↓o_eqBool, ↓o_neBool, ↓o_eqPtr, ↓o_nePtr, ↓o_eqPtr', ↓o_eqSl, ↓o_neSl, ↓o_eqStr, ↓o_neStr, ↓o_len, ↓o_lenS, ↓o_min, ↓o_max, ↓o_extract, ↓o_convInt, ↓cd_true, ↓cd_false, ↓gate_tt, ↓gate_ff, ↓gate_tf, ↓gate_ft, ↓gate_undef, ↓o_bind, ↓stay_v, ↓pop_cons, ↓fin_nil, Option.isNone_none, Option.isNone_some, Bool.not_true, Bool.not_false, Nat.zero_add, decide_true, decide_false, if_true, if_false, Bool.false_eq_true, ↓reduceIte]
  refine Rows_nil ?_
  simp only [t0, ↓o_nil, ↓o_field, ↓o_add, ↓o_sub, ↓o_mul, ↓o_lss, ↓o_leq, ↓o_gtr, ↓o_geq, ↓o_not, ↓o_pick, ↓o_eqInt, ↓o_neInt, ↓o_eqBool, ↓o_neBool, ↓o_eqPtr, ↓o_nePtr, ↓o_eqPtr', ↓o_eqSl, ↓o_neSl, ↓o_eqStr, ↓o_neStr, ↓o_len, ↓o_lenS, ↓o_min, ↓o_max, ↓o_extract, ↓o_convInt, ↓cd_true, ↓cd_false, ↓gate_tt, ↓gate_ff, ↓gate_tf, ↓gate_ft, ↓gate_undef, ↓o_bind, ↓stay_v, ↓pop_cons, ↓fin_nil, Option.isNone_none, Option.isNone_some, Bool.not_true, Bool.not_false, Nat.zero_add, decide_true, decide_false, if_true, if_false, Bool.false_eq_true, ↓reduceIte]
  refine Fork_nil ?_
  simp only [↓o_nil, ↓o_field, ↓o_add, ↓o_sub, ↓o_mul, ↓o_lss, ↓o_leq, ↓o_gtr, ↓o_geq, ↓o_not, ↓o_pick, ↓o_eqInt, ↓o_neInt, ↓o_eqBool, ↓o_neBool, ↓o_eqPtr, ↓o_nePtr, ↓o_eqPtr', ↓o_eqSl, ↓o_neSl, ↓o_eqStr, ↓o_neStr, ↓o_len, ↓o_lenS, ↓o_min, ↓o_max, ↓o_extract, ↓o_convInt, ↓cd_true, ↓cd_false, ↓gate_tt, ↓gate_ff, ↓gate_tf, ↓gate_ft, ↓gate_undef, ↓o_bind, ↓stay_v, ↓pop_cons, ↓fin_nil, Option.isNone_none, Option.isNone_some, Bool.not_true, Bool.not_false, Nat.zero_add, decide_true, decide_false, if_true, if_false, Bool.false_eq_true, ↓reduceIte]
  exact k w h
end Go.Proofs.YtbcimkjgpplcpaaGreatDoor.T
