/-
  What a password becomes by rounds: the code's and the reference's.
-/
import Derived.Test.YtjmgkfpjaelilaaHshP
set_option linter.all false
set_option maxRecDepth 10000
namespace Go.Proofs.Ytjmgkfpjaelilaa
open Go Hold
variable {E : World0} {w : World} {H R : HP} {K : Value → World → Prop}
def iterN (pw salt : List UInt8) : Nat → List UInt8
  | 0 => tag salt pw
  | n + 1 => tag pw (iterN pw salt n)
theorem iterN_length (pw salt : List UInt8) : ∀ n, (iterN pw salt n).length = 32
  | 0 => tag_length _ _
  | n + 1 => tag_length _ _
def zeros32 : List UInt8 := List.replicate 32 0
theorem zeros32_length : zeros32.length = 32 := rfl
def iter (pw salt : List UInt8) (cost : Int) : List UInt8 × Int :=
  if 64 < pw.length ∨ 8 < salt.length then (zeros32, 6) else if cost < 1 ∨ 64 < cost then (zeros32, 2) else (iterN pw salt cost.toNat, 0)
theorem iter_length (pw salt : List UInt8) (cost : Int) : (iter pw salt cost).1.length = 32 := by
  unfold iter; split
  · rfl
  · split
    · rfl
    · exact iterN_length _ _ _
/-- A hash and an error, handed back. -/
def hv2 (x : List UInt8 × Int) : Value := .tuple #[.agg (x.1.map bv).toArray, .int .i64 x.2]
theorem zeros_build {K : Value → World → Prop} (k : K (.agg (zeros32.map bv).toArray) w) : pvv prog (Instr.build 23 #[]) w K := pvv_of (fun w => by kernel_rfl) k
theorem hash_ret2 (h : sat E w H) {b : Nat} {l ol : List UInt8} {e : Int} (hl : l.length = 32) (hol : ol.length = 32) [Own H b (.cells (ol.map bv).toArray 23 (0, 0)) R]
    (k : ∀ w', sat E w' (pts b (.cells (l.map bv).toArray 23 (0, 0)) * R) → K (hv2 (l, e)) w') :
    efu prog (Instr.storeAt 23 (.pointer (some ⟨b, 0, none⟩)) (.agg (l.map bv).toArray)) w fun _ w =>
      ∃ r, (do loadVar 23 (← asAddr (.pointer (some ⟨b, 0, none⟩)))).run prog w = .ok r w ∧ K (.tuple #[r, .int .i64 e]) w :=
  hash_ret (K := fun r w => K (.tuple #[r, .int .i64 e]) w) h hl hol k
theorem Iterate_spec (h : sat E w H) {pw salt : List UInt8} {cost : Int} (hc : -9223372036854775808 ≤ cost ∧ cost ≤ 9223372036854775807) (k : ∀ w', sat E w' H → K (hv2 (iter pw salt cost)) w') : Calls prog 22 #[tv pw, tv salt, .int .i64 cost] w (Ret K) := by
  refine c22 ?_
  unfold B22
  refine alloc_sl h fun b0 w h => ?_
  have h : sat E w (pts b0 (.cells (zeros32.map bv).toArray 23 (0, 0)) * H) := h
  simp only [↓o_lenT, ↓o_nil, ↓o_field, ↓o_add, ↓o_sub, ↓o_mul, ↓o_lss, ↓o_leq, ↓o_gtr, ↓o_geq, ↓o_not, ↓o_pick, ↓o_eqInt, ↓o_neInt, ↓o_eqBool, ↓o_neBool, ↓o_eqPtr, ↓o_nePtr, ↓o_eqPtr', ↓o_eqSl, ↓o_neSl, ↓o_eqStr, ↓o_neStr, ↓o_len, ↓o_lenS, ↓o_min, ↓o_max, ↓o_extract, ↓o_convInt, ↓cd_true, ↓cd_false, ↓gate_tt, ↓gate_ff, ↓gate_tf, ↓gate_ft, ↓gate_undef, ↓o_bind, ↓stay_v, ↓pop_cons, ↓fin_nil, Option.isNone_none, Option.isNone_some, Bool.not_true, Bool.not_false, Nat.zero_add, decide_true, decide_false, if_true, if_false, Bool.false_eq_true, ↓reduceIte]
  by_cases h1 : 64 < pw.length
  · have e1 : (64 : Int) < pw.length := by omega
    simp only [e1, ↓o_nil, ↓o_field, ↓o_add, ↓o_sub, ↓o_mul, ↓o_lss, ↓o_leq, ↓o_gtr, ↓o_geq, ↓o_not, ↓o_pick, ↓o_eqInt, ↓o_neInt, ↓o_eqBool, ↓o_neBool, ↓o_eqPtr, ↓o_nePtr, ↓o_eqPtr', ↓o_eqSl, ↓o_neSl, ↓o_eqStr, ↓o_neStr, ↓o_len, ↓o_lenS, ↓o_min, ↓o_max, ↓o_extract, ↓o_convInt, ↓cd_true, ↓cd_false, ↓gate_tt, ↓gate_ff, ↓gate_tf, ↓gate_ft, ↓gate_undef, ↓o_bind, ↓stay_v, ↓pop_cons, ↓fin_nil, Option.isNone_none, Option.isNone_some, Bool.not_true, Bool.not_false, Nat.zero_add, decide_true, decide_false, if_true, if_false, Bool.false_eq_true, ↓reduceIte]
    refine zeros_build ?_
    have e : iter pw salt cost = (zeros32, 6) := by unfold iter; rw [if_pos (.inl h1)]
    refine hash_ret2 (b := b0) h zeros32_length zeros32_length fun w h => ?_
    rw [e] at k
    exact k _ h.drop
  have e1 : ¬ (64 : Int) < pw.length := by omega
  simp only [e1, ↓o_lenT, ↓o_nil, ↓o_field, ↓o_add, ↓o_sub, ↓o_mul, ↓o_lss, ↓o_leq, ↓o_gtr, ↓o_geq, ↓o_not, ↓o_pick, ↓o_eqInt, ↓o_neInt, ↓o_eqBool, ↓o_neBool, ↓o_eqPtr, ↓o_nePtr, ↓o_eqPtr', ↓o_eqSl, ↓o_neSl, ↓o_eqStr, ↓o_neStr, ↓o_len, ↓o_lenS, ↓o_min, ↓o_max, ↓o_extract, ↓o_convInt, ↓cd_true, ↓cd_false, ↓gate_tt, ↓gate_ff, ↓gate_tf, ↓gate_ft, ↓gate_undef, ↓o_bind, ↓stay_v, ↓pop_cons, ↓fin_nil, Option.isNone_none, Option.isNone_some, Bool.not_true, Bool.not_false, Nat.zero_add, decide_true, decide_false, if_true, if_false, Bool.false_eq_true, ↓reduceIte]
  by_cases h2 : 8 < salt.length
  · have e2 : (8 : Int) < salt.length := by omega
    simp only [e2, ↓o_nil, ↓o_field, ↓o_add, ↓o_sub, ↓o_mul, ↓o_lss, ↓o_leq, ↓o_gtr, ↓o_geq, ↓o_not, ↓o_pick, ↓o_eqInt, ↓o_neInt, ↓o_eqBool, ↓o_neBool, ↓o_eqPtr, ↓o_nePtr, ↓o_eqPtr', ↓o_eqSl, ↓o_neSl, ↓o_eqStr, ↓o_neStr, ↓o_len, ↓o_lenS, ↓o_min, ↓o_max, ↓o_extract, ↓o_convInt, ↓cd_true, ↓cd_false, ↓gate_tt, ↓gate_ff, ↓gate_tf, ↓gate_ft, ↓gate_undef, ↓o_bind, ↓stay_v, ↓pop_cons, ↓fin_nil, Option.isNone_none, Option.isNone_some, Bool.not_true, Bool.not_false, Nat.zero_add, decide_true, decide_false, if_true, if_false, Bool.false_eq_true, ↓reduceIte]
    refine zeros_build ?_
    have e : iter pw salt cost = (zeros32, 6) := by unfold iter; rw [if_pos (.inr h2)]
    refine hash_ret2 (b := b0) h zeros32_length zeros32_length fun w h => ?_
    rw [e] at k
    exact k _ h.drop
  have e2 : ¬ (8 : Int) < salt.length := by omega
  simp only [e2, ↓o_nil, ↓o_field, ↓o_add, ↓o_sub, ↓o_mul, ↓o_lss, ↓o_leq, ↓o_gtr, ↓o_geq, ↓o_not, ↓o_pick, ↓o_eqInt, ↓o_neInt, ↓o_eqBool, ↓o_neBool, ↓o_eqPtr, ↓o_nePtr, ↓o_eqPtr', ↓o_eqSl, ↓o_neSl, ↓o_eqStr, ↓o_neStr, ↓o_len, ↓o_lenS, ↓o_min, ↓o_max, ↓o_extract, ↓o_convInt, ↓cd_true, ↓cd_false, ↓gate_tt, ↓gate_ff, ↓gate_tf, ↓gate_ft, ↓gate_undef, ↓o_bind, ↓stay_v, ↓pop_cons, ↓fin_nil, Option.isNone_none, Option.isNone_some, Bool.not_true, Bool.not_false, Nat.zero_add, decide_true, decide_false, if_true, if_false, Bool.false_eq_true, ↓reduceIte]
  by_cases h3 : cost < 1
  · simp only [h3, ↓o_nil, ↓o_field, ↓o_add, ↓o_sub, ↓o_mul, ↓o_lss, ↓o_leq, ↓o_gtr, ↓o_geq, ↓o_not, ↓o_pick, ↓o_eqInt, ↓o_neInt, ↓o_eqBool, ↓o_neBool, ↓o_eqPtr, ↓o_nePtr, ↓o_eqPtr', ↓o_eqSl, ↓o_neSl, ↓o_eqStr, ↓o_neStr, ↓o_len, ↓o_lenS, ↓o_min, ↓o_max, ↓o_extract, ↓o_convInt, ↓cd_true, ↓cd_false, ↓gate_tt, ↓gate_ff, ↓gate_tf, ↓gate_ft, ↓gate_undef, ↓o_bind, ↓stay_v, ↓pop_cons, ↓fin_nil, Option.isNone_none, Option.isNone_some, Bool.not_true, Bool.not_false, Nat.zero_add, decide_true, decide_false, if_true, if_false, Bool.false_eq_true, ↓reduceIte]
    refine zeros_build ?_
    have e : iter pw salt cost = (zeros32, 2) := by unfold iter; rw [if_neg (by omega), if_pos (.inl h3)]
    refine hash_ret2 (b := b0) h zeros32_length zeros32_length fun w h => ?_
    rw [e] at k
    exact k _ h.drop
  simp only [h3, ↓o_nil, ↓o_field, ↓o_add, ↓o_sub, ↓o_mul, ↓o_lss, ↓o_leq, ↓o_gtr, ↓o_geq, ↓o_not, ↓o_pick, ↓o_eqInt, ↓o_neInt, ↓o_eqBool, ↓o_neBool, ↓o_eqPtr, ↓o_nePtr, ↓o_eqPtr', ↓o_eqSl, ↓o_neSl, ↓o_eqStr, ↓o_neStr, ↓o_len, ↓o_lenS, ↓o_min, ↓o_max, ↓o_extract, ↓o_convInt, ↓cd_true, ↓cd_false, ↓gate_tt, ↓gate_ff, ↓gate_tf, ↓gate_ft, ↓gate_undef, ↓o_bind, ↓stay_v, ↓pop_cons, ↓fin_nil, Option.isNone_none, Option.isNone_some, Bool.not_true, Bool.not_false, Nat.zero_add, decide_true, decide_false, if_true, if_false, Bool.false_eq_true, ↓reduceIte]
  by_cases h4 : 64 < cost
  · simp only [h4, ↓o_nil, ↓o_field, ↓o_add, ↓o_sub, ↓o_mul, ↓o_lss, ↓o_leq, ↓o_gtr, ↓o_geq, ↓o_not, ↓o_pick, ↓o_eqInt, ↓o_neInt, ↓o_eqBool, ↓o_neBool, ↓o_eqPtr, ↓o_nePtr, ↓o_eqPtr', ↓o_eqSl, ↓o_neSl, ↓o_eqStr, ↓o_neStr, ↓o_len, ↓o_lenS, ↓o_min, ↓o_max, ↓o_extract, ↓o_convInt, ↓cd_true, ↓cd_false, ↓gate_tt, ↓gate_ff, ↓gate_tf, ↓gate_ft, ↓gate_undef, ↓o_bind, ↓stay_v, ↓pop_cons, ↓fin_nil, Option.isNone_none, Option.isNone_some, Bool.not_true, Bool.not_false, Nat.zero_add, decide_true, decide_false, if_true, if_false, Bool.false_eq_true, ↓reduceIte]
    refine zeros_build ?_
    have e : iter pw salt cost = (zeros32, 2) := by unfold iter; rw [if_neg (by omega), if_pos (.inr h4)]
    refine hash_ret2 (b := b0) h zeros32_length zeros32_length fun w h => ?_
    rw [e] at k
    exact k _ h.drop
  simp only [h4, ↓o_nil, ↓o_field, ↓o_add, ↓o_sub, ↓o_mul, ↓o_lss, ↓o_leq, ↓o_gtr, ↓o_geq, ↓o_not, ↓o_pick, ↓o_eqInt, ↓o_neInt, ↓o_eqBool, ↓o_neBool, ↓o_eqPtr, ↓o_nePtr, ↓o_eqPtr', ↓o_eqSl, ↓o_neSl, ↓o_eqStr, ↓o_neStr, ↓o_len, ↓o_lenS, ↓o_min, ↓o_max, ↓o_extract, ↓o_convInt, ↓cd_true, ↓cd_false, ↓gate_tt, ↓gate_ff, ↓gate_tf, ↓gate_ft, ↓gate_undef, ↓o_bind, ↓stay_v, ↓pop_cons, ↓fin_nil, Option.isNone_none, Option.isNone_some, Bool.not_true, Bool.not_false, Nat.zero_add, decide_true, decide_false, if_true, if_false, Bool.false_eq_true, ↓reduceIte]
  obtain ⟨n, rfl⟩ := Int.eq_ofNat_of_zero_le (show 0 ≤ cost by omega)
  refine conv_sb h fun b1 c1 sp1 fr1 w h hc1 => ?_
  refine conv_sb h fun b2 c2 sp2 fr2 w h hc2 => ?_
  refine Tag_spec h (key := salt) (b := pw) (rds_row (b := b1) hc1) (rds_row (b := b2) hc2) (by omega) (by omega) fun w h => ?_
  have h := h.drop.drop
  refine hash_var h (tag_length _ _) fun bh w h => ?_
  refine lp_nat (fun q σ w => ∃ i : Nat, σ = [.int .i64 i] ∧ q = n - i ∧ i ≤ n ∧ sat E w (pts bh (.cells ((iterN pw salt i).map bv).toArray 23 (0, 0)) * (pts b0 (.cells (zeros32.map bv).toArray 23 (0, 0)) * H))) n ⟨0, rfl, rfl, by omega, h⟩ ?_
  clear h
  rintro q σ w again ⟨i, rfl, rfl, hi, h⟩ hag
  rw [pop_cons, fin_nil, o_lss]
  refine cd_dec (fun hlt => ?_) (fun hge => ?_)
  · refine conv_sb h fun b3 c3 sp3 fr3 w h hc3 => ?_
    rw [o_sliceA]
    have hil := iterN_length pw salt i
    refine Tag_spec h (key := pw) (b := iterN pw salt i) (rds_row (b := b3) hc3) (by rw [hil]; exact rds_block (b := bh) (Nat.le_refl _)) (by omega) (by omega) fun w h => ?_
    have h := h.drop
    refine storeN_sl (b := bh) h (aggC_23).size (vs := (tag pw (iterN pw salt i)).map bv) (by simp [Value.cells]) (by simp [tag_length]) (bv_one _) (by simp [hil]) fun w h => ?_
    rw [o_add, i64_of (by omega) (by omega)]
    refine hag (n - (i + 1)) _ _ (by omega) ⟨i + 1, rfl, rfl, by omega, ?_⟩
    have e : ((iterN pw salt i).map bv).take 0 ++ (tag pw (iterN pw salt i)).map bv ++ ((iterN pw salt i).map bv).drop (0 + 32) = (iterN pw salt (i + 1)).map bv := by
      rw [List.drop_eq_nil_of_le (by simp [hil])]; simp [iterN]
    rw [e] at h
    exact h
  · have hi2 : i = n := by omega
    subst hi2
    refine ld_agg (b := bh) h (by simp [iterN_length]) ?_
    have e : iter pw salt (i : Int) = (iterN pw salt i, 0) := by unfold iter; rw [if_neg (by omega), if_neg (by omega)]; rfl
    refine hash_ret2 (b := b0) h (iterN_length _ _ _) zeros32_length fun w h => ?_
    rw [e] at k
    exact k _ h.drop.drop
theorem RIterate_spec (h : sat E w H) {pw salt : List UInt8} {cost : Int} (hc : -9223372036854775808 ≤ cost ∧ cost ≤ 9223372036854775807) (k : ∀ w', sat E w' H → K (hv2 (iter pw salt cost)) w') : Calls prog 23 #[tv pw, tv salt, .int .i64 cost] w (Ret K) := by
  refine c23 ?_
  unfold B23
  refine alloc_sl h fun b0 w h => ?_
  have h : sat E w (pts b0 (.cells (zeros32.map bv).toArray 23 (0, 0)) * H) := h
  simp only [↓o_lenT, ↓o_nil, ↓o_field, ↓o_add, ↓o_sub, ↓o_mul, ↓o_lss, ↓o_leq, ↓o_gtr, ↓o_geq, ↓o_not, ↓o_pick, ↓o_eqInt, ↓o_neInt, ↓o_eqBool, ↓o_neBool, ↓o_eqPtr, ↓o_nePtr, ↓o_eqPtr', ↓o_eqSl, ↓o_neSl, ↓o_eqStr, ↓o_neStr, ↓o_len, ↓o_lenS, ↓o_min, ↓o_max, ↓o_extract, ↓o_convInt, ↓cd_true, ↓cd_false, ↓gate_tt, ↓gate_ff, ↓gate_tf, ↓gate_ft, ↓gate_undef, ↓o_bind, ↓stay_v, ↓pop_cons, ↓fin_nil, Option.isNone_none, Option.isNone_some, Bool.not_true, Bool.not_false, Nat.zero_add, decide_true, decide_false, if_true, if_false, Bool.false_eq_true, ↓reduceIte]
  by_cases h1 : 64 < pw.length
  · have e1 : (64 : Int) < pw.length := by omega
    simp only [e1, ↓o_nil, ↓o_field, ↓o_add, ↓o_sub, ↓o_mul, ↓o_lss, ↓o_leq, ↓o_gtr, ↓o_geq, ↓o_not, ↓o_pick, ↓o_eqInt, ↓o_neInt, ↓o_eqBool, ↓o_neBool, ↓o_eqPtr, ↓o_nePtr, ↓o_eqPtr', ↓o_eqSl, ↓o_neSl, ↓o_eqStr, ↓o_neStr, ↓o_len, ↓o_lenS, ↓o_min, ↓o_max, ↓o_extract, ↓o_convInt, ↓cd_true, ↓cd_false, ↓gate_tt, ↓gate_ff, ↓gate_tf, ↓gate_ft, ↓gate_undef, ↓o_bind, ↓stay_v, ↓pop_cons, ↓fin_nil, Option.isNone_none, Option.isNone_some, Bool.not_true, Bool.not_false, Nat.zero_add, decide_true, decide_false, if_true, if_false, Bool.false_eq_true, ↓reduceIte]
    refine zeros_build ?_
    have e : iter pw salt cost = (zeros32, 6) := by unfold iter; rw [if_pos (.inl h1)]
    refine hash_ret2 (b := b0) h zeros32_length zeros32_length fun w h => ?_
    rw [e] at k
    exact k _ h.drop
  have e1 : ¬ (64 : Int) < pw.length := by omega
  simp only [e1, ↓o_lenT, ↓o_nil, ↓o_field, ↓o_add, ↓o_sub, ↓o_mul, ↓o_lss, ↓o_leq, ↓o_gtr, ↓o_geq, ↓o_not, ↓o_pick, ↓o_eqInt, ↓o_neInt, ↓o_eqBool, ↓o_neBool, ↓o_eqPtr, ↓o_nePtr, ↓o_eqPtr', ↓o_eqSl, ↓o_neSl, ↓o_eqStr, ↓o_neStr, ↓o_len, ↓o_lenS, ↓o_min, ↓o_max, ↓o_extract, ↓o_convInt, ↓cd_true, ↓cd_false, ↓gate_tt, ↓gate_ff, ↓gate_tf, ↓gate_ft, ↓gate_undef, ↓o_bind, ↓stay_v, ↓pop_cons, ↓fin_nil, Option.isNone_none, Option.isNone_some, Bool.not_true, Bool.not_false, Nat.zero_add, decide_true, decide_false, if_true, if_false, Bool.false_eq_true, ↓reduceIte]
  by_cases h2 : 8 < salt.length
  · have e2 : (8 : Int) < salt.length := by omega
    simp only [e2, ↓o_nil, ↓o_field, ↓o_add, ↓o_sub, ↓o_mul, ↓o_lss, ↓o_leq, ↓o_gtr, ↓o_geq, ↓o_not, ↓o_pick, ↓o_eqInt, ↓o_neInt, ↓o_eqBool, ↓o_neBool, ↓o_eqPtr, ↓o_nePtr, ↓o_eqPtr', ↓o_eqSl, ↓o_neSl, ↓o_eqStr, ↓o_neStr, ↓o_len, ↓o_lenS, ↓o_min, ↓o_max, ↓o_extract, ↓o_convInt, ↓cd_true, ↓cd_false, ↓gate_tt, ↓gate_ff, ↓gate_tf, ↓gate_ft, ↓gate_undef, ↓o_bind, ↓stay_v, ↓pop_cons, ↓fin_nil, Option.isNone_none, Option.isNone_some, Bool.not_true, Bool.not_false, Nat.zero_add, decide_true, decide_false, if_true, if_false, Bool.false_eq_true, ↓reduceIte]
    refine zeros_build ?_
    have e : iter pw salt cost = (zeros32, 6) := by unfold iter; rw [if_pos (.inr h2)]
    refine hash_ret2 (b := b0) h zeros32_length zeros32_length fun w h => ?_
    rw [e] at k
    exact k _ h.drop
  have e2 : ¬ (8 : Int) < salt.length := by omega
  simp only [e2, ↓o_nil, ↓o_field, ↓o_add, ↓o_sub, ↓o_mul, ↓o_lss, ↓o_leq, ↓o_gtr, ↓o_geq, ↓o_not, ↓o_pick, ↓o_eqInt, ↓o_neInt, ↓o_eqBool, ↓o_neBool, ↓o_eqPtr, ↓o_nePtr, ↓o_eqPtr', ↓o_eqSl, ↓o_neSl, ↓o_eqStr, ↓o_neStr, ↓o_len, ↓o_lenS, ↓o_min, ↓o_max, ↓o_extract, ↓o_convInt, ↓cd_true, ↓cd_false, ↓gate_tt, ↓gate_ff, ↓gate_tf, ↓gate_ft, ↓gate_undef, ↓o_bind, ↓stay_v, ↓pop_cons, ↓fin_nil, Option.isNone_none, Option.isNone_some, Bool.not_true, Bool.not_false, Nat.zero_add, decide_true, decide_false, if_true, if_false, Bool.false_eq_true, ↓reduceIte]
  by_cases h3 : cost < 1
  · simp only [h3, ↓o_nil, ↓o_field, ↓o_add, ↓o_sub, ↓o_mul, ↓o_lss, ↓o_leq, ↓o_gtr, ↓o_geq, ↓o_not, ↓o_pick, ↓o_eqInt, ↓o_neInt, ↓o_eqBool, ↓o_neBool, ↓o_eqPtr, ↓o_nePtr, ↓o_eqPtr', ↓o_eqSl, ↓o_neSl, ↓o_eqStr, ↓o_neStr, ↓o_len, ↓o_lenS, ↓o_min, ↓o_max, ↓o_extract, ↓o_convInt, ↓cd_true, ↓cd_false, ↓gate_tt, ↓gate_ff, ↓gate_tf, ↓gate_ft, ↓gate_undef, ↓o_bind, ↓stay_v, ↓pop_cons, ↓fin_nil, Option.isNone_none, Option.isNone_some, Bool.not_true, Bool.not_false, Nat.zero_add, decide_true, decide_false, if_true, if_false, Bool.false_eq_true, ↓reduceIte]
    refine zeros_build ?_
    have e : iter pw salt cost = (zeros32, 2) := by unfold iter; rw [if_neg (by omega), if_pos (.inl h3)]
    refine hash_ret2 (b := b0) h zeros32_length zeros32_length fun w h => ?_
    rw [e] at k
    exact k _ h.drop
  simp only [h3, ↓o_nil, ↓o_field, ↓o_add, ↓o_sub, ↓o_mul, ↓o_lss, ↓o_leq, ↓o_gtr, ↓o_geq, ↓o_not, ↓o_pick, ↓o_eqInt, ↓o_neInt, ↓o_eqBool, ↓o_neBool, ↓o_eqPtr, ↓o_nePtr, ↓o_eqPtr', ↓o_eqSl, ↓o_neSl, ↓o_eqStr, ↓o_neStr, ↓o_len, ↓o_lenS, ↓o_min, ↓o_max, ↓o_extract, ↓o_convInt, ↓cd_true, ↓cd_false, ↓gate_tt, ↓gate_ff, ↓gate_tf, ↓gate_ft, ↓gate_undef, ↓o_bind, ↓stay_v, ↓pop_cons, ↓fin_nil, Option.isNone_none, Option.isNone_some, Bool.not_true, Bool.not_false, Nat.zero_add, decide_true, decide_false, if_true, if_false, Bool.false_eq_true, ↓reduceIte]
  by_cases h4 : 64 < cost
  · simp only [h4, ↓o_nil, ↓o_field, ↓o_add, ↓o_sub, ↓o_mul, ↓o_lss, ↓o_leq, ↓o_gtr, ↓o_geq, ↓o_not, ↓o_pick, ↓o_eqInt, ↓o_neInt, ↓o_eqBool, ↓o_neBool, ↓o_eqPtr, ↓o_nePtr, ↓o_eqPtr', ↓o_eqSl, ↓o_neSl, ↓o_eqStr, ↓o_neStr, ↓o_len, ↓o_lenS, ↓o_min, ↓o_max, ↓o_extract, ↓o_convInt, ↓cd_true, ↓cd_false, ↓gate_tt, ↓gate_ff, ↓gate_tf, ↓gate_ft, ↓gate_undef, ↓o_bind, ↓stay_v, ↓pop_cons, ↓fin_nil, Option.isNone_none, Option.isNone_some, Bool.not_true, Bool.not_false, Nat.zero_add, decide_true, decide_false, if_true, if_false, Bool.false_eq_true, ↓reduceIte]
    refine zeros_build ?_
    have e : iter pw salt cost = (zeros32, 2) := by unfold iter; rw [if_neg (by omega), if_pos (.inr h4)]
    refine hash_ret2 (b := b0) h zeros32_length zeros32_length fun w h => ?_
    rw [e] at k
    exact k _ h.drop
  simp only [h4, ↓o_nil, ↓o_field, ↓o_add, ↓o_sub, ↓o_mul, ↓o_lss, ↓o_leq, ↓o_gtr, ↓o_geq, ↓o_not, ↓o_pick, ↓o_eqInt, ↓o_neInt, ↓o_eqBool, ↓o_neBool, ↓o_eqPtr, ↓o_nePtr, ↓o_eqPtr', ↓o_eqSl, ↓o_neSl, ↓o_eqStr, ↓o_neStr, ↓o_len, ↓o_lenS, ↓o_min, ↓o_max, ↓o_extract, ↓o_convInt, ↓cd_true, ↓cd_false, ↓gate_tt, ↓gate_ff, ↓gate_tf, ↓gate_ft, ↓gate_undef, ↓o_bind, ↓stay_v, ↓pop_cons, ↓fin_nil, Option.isNone_none, Option.isNone_some, Bool.not_true, Bool.not_false, Nat.zero_add, decide_true, decide_false, if_true, if_false, Bool.false_eq_true, ↓reduceIte]
  obtain ⟨n, rfl⟩ := Int.eq_ofNat_of_zero_le (show 0 ≤ cost by omega)
  refine conv_sb h fun b1 c1 sp1 fr1 w h hc1 => ?_
  refine conv_sb h fun b2 c2 sp2 fr2 w h hc2 => ?_
  refine RTag_spec h (key := salt) (b := pw) (rds_row (b := b1) hc1) (rds_row (b := b2) hc2) (by omega) (by omega) fun w h => ?_
  have h := h.drop.drop
  refine hash_var h (tag_length _ _) fun bh w h => ?_
  refine lp_nat (fun q σ w => ∃ i : Nat, σ = [.int .i64 i] ∧ q = n - i ∧ i ≤ n ∧ sat E w (pts bh (.cells ((iterN pw salt i).map bv).toArray 23 (0, 0)) * (pts b0 (.cells (zeros32.map bv).toArray 23 (0, 0)) * H))) n ⟨0, rfl, rfl, by omega, h⟩ ?_
  clear h
  rintro q σ w again ⟨i, rfl, rfl, hi, h⟩ hag
  rw [pop_cons, fin_nil, o_lss]
  refine cd_dec (fun hlt => ?_) (fun hge => ?_)
  · refine conv_sb h fun b3 c3 sp3 fr3 w h hc3 => ?_
    have hil := iterN_length pw salt i
    refine ld_agg (b := bh) h (by simp [hil]) ?_
    refine bytesOf_spec h hil fun v4 w h => ?_
    refine RTag_spec h (key := pw) (b := iterN pw salt i) (rds_row (b := b3) hc3) (by rw [hil]; exact Rds.osl.left) (by omega) (by omega) fun w h => ?_
    have h := h.drop.drop
    refine storeN_sl (b := bh) h (aggC_23).size (vs := (tag pw (iterN pw salt i)).map bv) (by simp [Value.cells]) (by simp [tag_length]) (bv_one _) (by simp [hil]) fun w h => ?_
    rw [o_add, i64_of (by omega) (by omega)]
    refine hag (n - (i + 1)) _ _ (by omega) ⟨i + 1, rfl, rfl, by omega, ?_⟩
    have e : ((iterN pw salt i).map bv).take 0 ++ (tag pw (iterN pw salt i)).map bv ++ ((iterN pw salt i).map bv).drop (0 + 32) = (iterN pw salt (i + 1)).map bv := by
      rw [List.drop_eq_nil_of_le (by simp [hil])]; simp [iterN]
    rw [e] at h
    exact h
  · have hi2 : i = n := by omega
    subst hi2
    refine ld_agg (b := bh) h (by simp [iterN_length]) ?_
    have e : iter pw salt (i : Int) = (iterN pw salt i, 0) := by unfold iter; rw [if_neg (by omega), if_neg (by omega)]; rfl
    refine hash_ret2 (b := b0) h (iterN_length _ _ _) zeros32_length fun w h => ?_
    rw [e] at k
    exact k _ h.drop.drop
theorem eq23 {a b : List UInt8} (ha : a.length = 32) (hb : b.length = 32) {xo yo : Operand} {K : Value → World → Prop} : pvv prog (oEq .eql 23 xo yo (.agg (a.map bv).toArray) (.agg (b.map bv).toArray)) w K = K (.bool (a == b)) w := o_eqArr (n := 32) (by kernel_rfl) ha hb
end Go.Proofs.Ytjmgkfpjaelilaa
