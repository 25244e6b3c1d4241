/-
  What must be whatever is asked of tokens.
-/
import Derived.Test.YtbcimkjgpplcpaaGreatDoorTokF
set_option linter.all false
set_option maxRecDepth 100000
namespace Go.Proofs.YtbcimkjgpplcpaaGreatDoor.T
open Go Hold
variable {E : World0} {w : World} {H R X : HP} {K : Value → World → Prop}
theorem live_spec (h : sat E w H) (k : ∀ w', sat E w' H → K (.bool true) w') : Calls prog 8 #[] w (Ret K) := by
  have t0 : ∀ n : Int, decide (n = n) = true := fun n => decide_eq_true rfl
  refine c8 ?_
  unfold B8
  refine New_spec h fun p b c w h => ?_
  simp only [↓o_eqPtr, Option.isNone_some, ↓cd_false]
  refine Grant_spec (ses := 1) (cl := [99]) (sc := 3) (now := 0) ok_newS (by omega) (by decide) h fun w h => ?_
  have e1 : grantT newS 1 [99] 3 0 = (⟨2, 2, 0, [⟨1, 1, [99], 3, 1⟩], [⟨1, 1, 3, 50⟩]⟩, ⟨1, 1, [99], 3, 1⟩, ⟨1, 1, 3, 50⟩, 0) := by rfl
  have ok1 := ok_grant (ses := 1) (cl := [99]) (sc := 3) (now := 0) ok_newS
  rw [e1] at h ok1 ⊢
  rw [o_extract, o_extract, o_extract]
  refine two_in h fun fb tb w h => ?_
  have h := h.perm (show _ = sI p ⟨2, 2, 0, [⟨1, 1, [99], 3, 1⟩], [⟨1, 1, 3, 50⟩]⟩ b c (pts tb (.cells (kcells ⟨1, 1, 3, 50⟩).toArray 49 (0, 0)) * (pts fb (.cells (fcells ⟨1, 1, [99], 3, 1⟩).toArray 35 (0, 0)) * H)) by unfold sI; ac_rfl)
  refine Refresh_spec (fam := 1) (num := 1) (now := 10) ok1 (by omega) h fun w h => ?_
  have e2 : refT ⟨2, 2, 0, [⟨1, 1, [99], 3, 1⟩], [⟨1, 1, 3, 50⟩]⟩ 1 1 10 = (⟨2, 3, 10, [⟨1, 1, [99], 3, 2⟩], [⟨1, 1, 3, 50⟩, ⟨2, 1, 3, 60⟩]⟩, ⟨1, 1, [99], 3, 2⟩, ⟨2, 1, 3, 60⟩, 0) := by rfl
  have ok2 := ok_ref (fam := 1) (num := 1) (now := 10) ok1
  rw [e2] at h ok2 ⊢
  rw [o_extract, o_extract, o_extract]
  refine two_in h fun gb ub w h => ?_
  have h := h.perm (show _ = sI p ⟨2, 3, 10, [⟨1, 1, [99], 3, 2⟩], [⟨1, 1, 3, 50⟩, ⟨2, 1, 3, 60⟩]⟩ b c (pts ub (.cells (kcells ⟨2, 1, 3, 60⟩).toArray 49 (0, 0)) * (pts gb (.cells (fcells ⟨1, 1, [99], 3, 2⟩).toArray 35 (0, 0)) * (pts tb (.cells (kcells ⟨1, 1, 3, 50⟩).toArray 49 (0, 0)) * (pts fb (.cells (fcells ⟨1, 1, [99], 3, 1⟩).toArray 35 (0, 0)) * H)))) by unfold sI; ac_rfl)
  refine Refresh_spec (fam := 1) (num := 1) (now := 11) ok2 (by omega) h fun w h => ?_
  have e3 : refT ⟨2, 3, 10, [⟨1, 1, [99], 3, 2⟩], [⟨1, 1, 3, 50⟩, ⟨2, 1, 3, 60⟩]⟩ 1 1 11 = (⟨2, 3, 11, [], []⟩, zeroF, zeroK, 13) := by rfl
  rw [e3] at h ⊢
  rw [o_extract, o_extract, o_extract]
  refine two_in h fun ab vb w h => ?_
  have h := h.perm (show _ = sI p ⟨2, 3, 11, [], []⟩ b c (pts vb (.cells (kcells zeroK).toArray 49 (0, 0)) * (pts ab (.cells (fcells zeroF).toArray 35 (0, 0)) * (pts ub (.cells (kcells ⟨2, 1, 3, 60⟩).toArray 49 (0, 0)) * (pts gb (.cells (fcells ⟨1, 1, [99], 3, 2⟩).toArray 35 (0, 0)) * (pts tb (.cells (kcells ⟨1, 1, 3, 50⟩).toArray 49 (0, 0)) * (pts fb (.cells (fcells ⟨1, 1, [99], 3, 1⟩).toArray 35 (0, 0)) * H)))))) by unfold sI; ac_rfl)
  refine Access_spec (id := 2) (now := 11) h fun w h => ?_
  have e4 : accT ⟨2, 3, 11, [], []⟩ 2 11 = (zeroK, 12) := by rfl
  rw [e4, o_extract, o_extract]
  refine tok_in h fun cb w h => ?_
  simp only [t0, ↓o_nil, ↓o_field, ↓o_add, ↓o_sub, ↓o_mul, ↓o_lss, ↓o_leq, ↓o_gtr, ↓o_geq, ↓o_not, ↓o_pick, ↓o_eqInt, ↓o_neInt, ↓o_eqBool, ↓o_neBool, ↓o_eqPtr, ↓o_nePtr, ↓o_eqPtr', ↓o_eqSl, ↓o_neSl, ↓o_eqStr, ↓o_neStr, ↓o_len, ↓o_lenS, ↓o_min, ↓o_max, ↓o_extract, ↓o_convInt, ↓cd_true, ↓cd_false, ↓gate_tt, ↓gate_ff, ↓gate_tf, ↓gate_ft, ↓gate_undef, ↓o_bind, ↓stay_v, ↓pop_cons, ↓fin_nil, Option.isNone_none, Option.isNone_some, Bool.not_true, Bool.not_false, Nat.zero_add, decide_true, decide_false, if_true, if_false, Bool.false_eq_true, ↓reduceIte]
  refine ld_in (b := fb) (v := .int .i64 1) h rfl ?_
  simp only [t0, ↓o_nil, ↓o_field, ↓o_add, ↓o_sub, ↓o_mul, ↓o_lss, ↓o_leq, ↓o_gtr, ↓o_geq, ↓o_not, ↓o_pick, ↓o_eqInt, ↓o_neInt, ↓o_eqBool, ↓o_neBool, ↓o_eqPtr, ↓o_nePtr, ↓o_eqPtr', ↓o_eqSl, ↓o_neSl, ↓o_eqStr, ↓o_neStr, ↓o_len, ↓o_lenS, ↓o_min, ↓o_max, ↓o_extract, ↓o_convInt, ↓cd_true, ↓cd_false, ↓gate_tt, ↓gate_ff, ↓gate_tf, ↓gate_ft, ↓gate_undef, ↓o_bind, ↓stay_v, ↓pop_cons, ↓fin_nil, Option.isNone_none, Option.isNone_some, Bool.not_true, Bool.not_false, Nat.zero_add, decide_true, decide_false, if_true, if_false, Bool.false_eq_true, ↓reduceIte]
  refine ld_in (b := tb) (v := .int .i64 50) h rfl ?_
  simp only [t0, ↓o_nil, ↓o_field, ↓o_add, ↓o_sub, ↓o_mul, ↓o_lss, ↓o_leq, ↓o_gtr, ↓o_geq, ↓o_not, ↓o_pick, ↓o_eqInt, ↓o_neInt, ↓o_eqBool, ↓o_neBool, ↓o_eqPtr, ↓o_nePtr, ↓o_eqPtr', ↓o_eqSl, ↓o_neSl, ↓o_eqStr, ↓o_neStr, ↓o_len, ↓o_lenS, ↓o_min, ↓o_max, ↓o_extract, ↓o_convInt, ↓cd_true, ↓cd_false, ↓gate_tt, ↓gate_ff, ↓gate_tf, ↓gate_ft, ↓gate_undef, ↓o_bind, ↓stay_v, ↓pop_cons, ↓fin_nil, Option.isNone_none, Option.isNone_some, Bool.not_true, Bool.not_false, Nat.zero_add, decide_true, decide_false, if_true, if_false, Bool.false_eq_true, ↓reduceIte]
  refine ld_in (b := gb) (v := .int .i64 2) h rfl ?_
  simp only [t0, ↓o_nil, ↓o_field, ↓o_add, ↓o_sub, ↓o_mul, ↓o_lss, ↓o_leq, ↓o_gtr, ↓o_geq, ↓o_not, ↓o_pick, ↓o_eqInt, ↓o_neInt, ↓o_eqBool, ↓o_neBool, ↓o_eqPtr, ↓o_nePtr, ↓o_eqPtr', ↓o_eqSl, ↓o_neSl, ↓o_eqStr, ↓o_neStr, ↓o_len, ↓o_lenS, ↓o_min, ↓o_max, ↓o_extract, ↓o_convInt, ↓cd_true, ↓cd_false, ↓gate_tt, ↓gate_ff, ↓gate_tf, ↓gate_ft, ↓gate_undef, ↓o_bind, ↓stay_v, ↓pop_cons, ↓fin_nil, Option.isNone_none, Option.isNone_some, Bool.not_true, Bool.not_false, Nat.zero_add, decide_true, decide_false, if_true, if_false, Bool.false_eq_true, ↓reduceIte]
  refine ld_in (b := ub) (v := .int .i64 2) h rfl ?_
  simp only [t0, ↓o_nil, ↓o_field, ↓o_add, ↓o_sub, ↓o_mul, ↓o_lss, ↓o_leq, ↓o_gtr, ↓o_geq, ↓o_not, ↓o_pick, ↓o_eqInt, ↓o_neInt, ↓o_eqBool, ↓o_neBool, ↓o_eqPtr, ↓o_nePtr, ↓o_eqPtr', ↓o_eqSl, ↓o_neSl, ↓o_eqStr, ↓o_neStr, ↓o_len, ↓o_lenS, ↓o_min, ↓o_max, ↓o_extract, ↓o_convInt, ↓cd_true, ↓cd_false, ↓gate_tt, ↓gate_ff, ↓gate_tf, ↓gate_ft, ↓gate_undef, ↓o_bind, ↓stay_v, ↓pop_cons, ↓fin_nil, Option.isNone_none, Option.isNone_some, Bool.not_true, Bool.not_false, Nat.zero_add, decide_true, decide_false, if_true, if_false, Bool.false_eq_true, ↓reduceIte]
  refine k w ?_
  have h := h.drop
  unfold sI at h
  exact h.drop.drop.drop.drop.drop.drop.drop.drop.drop
end Go.Proofs.YtbcimkjgpplcpaaGreatDoor.T
