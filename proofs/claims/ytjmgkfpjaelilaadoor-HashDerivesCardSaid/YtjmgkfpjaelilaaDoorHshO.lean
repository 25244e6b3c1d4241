/-
  Tags.
-/
import Derived.Test.YtjmgkfpjaelilaaDoorHshN
set_option linter.all false
set_option maxRecDepth 10000
namespace Go.Proofs.YtjmgkfpjaelilaaDoor
open Go Hold
variable {E : World0} {w : World} {H R : HP} {K : Value → World → Prop}
theorem Tag_spec (h : sat E w H) {vk vb : Value} {key b : List UInt8} (hk : Rds H vk key.length (key.map bv)) (hb : Rds H vb b.length (b.map bv)) (hkl : key.length ≤ 140737488355000) (hbl : b.length + 64 ≤ 140737488355000)
    (k : ∀ w', sat E w' H → K (.agg ((tag key b).map bv).toArray) w') : Calls prog 10 #[vk, vb] w (Ret K) := by
  obtain ⟨ab, cb, rfl, hcb, hb, hab⟩ := hb.shape h
  obtain ⟨ak, ck, rfl, hck, hk, hak⟩ := hk.shape h
  refine c10 ?_
  unfold B10
  refine alloc_sl h fun b0 w h => ?_
  have h : sat E w (pts b0 (.cells ((List.replicate 32 (0 : UInt8)).map bv).toArray 23 (0, 0)) * H) := h
  refine jn_cut (fun σ w => ∃ v X, σ = [v] ∧ sat E w (X * (pts b0 (.cells ((List.replicate 32 (0 : UInt8)).map bv).toArray 23 (0, 0)) * H)) ∧ Rds (X * (pts b0 (.cells ((List.replicate 32 (0 : UInt8)).map bv).toArray 23 (0, 0)) * H)) v (key0 key).length ((key0 key).map bv)) ?_ ?_
  · intro kk hkk
    rw [o_len, o_gtr]
    refine cd_dec (fun hlt => ?_) (fun hge => ?_)
    · have e : key0 key = sha key := by unfold key0; rw [if_pos (by omega)]
      refine Sum_spec h hk.right hkl fun w h => ?_
      refine hash_var h (sha_length key) fun b1 w h => ?_
      rw [o_sliceA]
      refine hkk _ _ ⟨_, _, rfl, h, ?_⟩
      rw [e, sha_length]
      exact rds_block (b := b1) (Nat.le_refl _)
    · have e : key0 key = key := by unfold key0; rw [if_neg (by omega)]
      refine hkk _ _ ⟨_, emp, rfl, by rw [emp_star]; exact h, ?_⟩
      rw [e, emp_star]
      exact hk.right
  · rintro σ w ⟨v, X, rfl, h, hv⟩
    clear hk
    have hk0 := key0_length key
    obtain ⟨a0, c0, rfl, hc0, hv, ha0⟩ := hv.shape h
    rw [pop_cons, fin_nil]
    refine alloc_sl h fun b1 w h => ?_
    refine alloc_sl h fun b2 w h => ?_
    have h : sat E w (pts b2 (.cells (List.replicate 64 (bv 0)).toArray 41 (0, 0)) * (pts b1 (.cells (List.replicate 64 (bv 0)).toArray 41 (0, 0)) * (X * (pts b0 (.cells ((List.replicate 32 (0 : UInt8)).map bv).toArray 23 (0, 0)) * H)))) := h
    rw [o_sliceA]
    refine copy_in (b := b1) h (news := (key0 key).map bv) (by simp; omega) (hv.win h.drop.drop) (bv_one _) (by simp; omega) fun w h => ?_
    have e1 : (List.replicate 64 (bv 0)).take 0 ++ (key0 key).map bv ++ (List.replicate 64 (bv 0)).drop (0 + ((key0 key).map bv).length) = (filled key).map bv := by
      simp only [filled, List.take_zero, List.nil_append, List.length_map, Nat.zero_add, List.drop_replicate, List.map_append, List.map_replicate]
    rw [e1] at h
    have hfl : ((filled key).map bv).length = 64 := by rw [List.length_map, filled_length]
    refine ld_agg (b := b1) h hfl ?_
    refine storeN_sl (b := b2) h (aggC_41).size (vs := (filled key).map bv) (by simp [Value.cells]) hfl (bv_one _) (by simp) fun w h => ?_
    have e2 : (List.replicate 64 (bv 0)).take 0 ++ (filled key).map bv ++ (List.replicate 64 (bv 0)).drop (0 + 64) = (filled key).map bv := by simp
    rw [e2] at h
    have hin : ((filled key).map (· ^^^ 54)).length = 64 := by rw [List.length_map, filled_length]
    have hout : ((filled key).map (· ^^^ 92)).length = 64 := by rw [List.length_map, filled_length]
    refine lp_nat (fun q σ w => ∃ i : Nat, σ = [.int .i64 i] ∧ q = 64 - i ∧ i ≤ 64 ∧
      sat E w (pts b2 (.cells ((((filled key).map (· ^^^ 92)).take i ++ (filled key).drop i).map bv).toArray 41 (0, 0)) * (pts b1 (.cells ((((filled key).map (· ^^^ 54)).take i ++ (filled key).drop i).map bv).toArray 41 (0, 0)) * (X * (pts b0 (.cells ((List.replicate 32 (0 : UInt8)).map bv).toArray 23 (0, 0)) * H))))) 64
      ⟨0, rfl, rfl, by omega, by simpa using h⟩ ?_
    clear h
    rintro q σ w again ⟨i, rfl, rfl, hi, h⟩ hag
    rw [pop_cons, fin_nil, o_lss]
    refine cd_dec (fun hlt => ?_) (fun hge => ?_)
    · have hlt : i < 64 := by omega
      have ix : ∀ {b : Nat} {w : World} {K : Value → World → Prop}, pvv prog (Instr.indexAt 41 (.pointer (some ⟨b, 0, none⟩)) (.int .i64 (i : Int))) w K = K (.pointer (some ⟨b, i, none⟩)) w := fun {b w K} => by
        rw [o_indexA (by omega) (by omega)]; simp
      have gx : ∀ (f : UInt8 → UInt8), (((((filled key).map f).take i ++ (filled key).drop i).map bv))[i]? = some (bv ((filled key).getD i 0)) := fun f => by
        rw [List.getElem?_map, take_drop_get (n := 64) (by rw [List.length_map, filled_length]) hlt, ← List.getElem?_map]
        exact getbv (by rw [filled_length]; exact hlt)
      have sx : ∀ (f : UInt8 → UInt8), ((((filled key).map f).take i ++ (filled key).drop i).map bv).set i (bv (f ((filled key).getD i 0))) = (((filled key).map f).take (i + 1) ++ (filled key).drop (i + 1)).map bv := fun f => by
        rw [← List.map_set]
        congr 1
        refine take_drop_set (n := 64) (by rw [List.length_map, filled_length]) (filled_length _) hlt ?_
        have : i < (filled key).length := by rw [filled_length]; exact hlt
        simp [List.getD_eq_getElem?_getD, this]
      have lx : ∀ (f : UInt8 → UInt8), i < ((((filled key).map f).take i ++ (filled key).drop i).map bv).length := fun f => by
        simp [filled_length]; omega
      rw [ix]
      refine ld_in (b := b1) h (gx _) ?_
      rw [show Value.int .u8 54 = bv 54 from rfl, o_xorB, ix]
      refine store_sl (b := b1) h rfl (lx _) fun w h => ?_
      rw [sx (· ^^^ 54), ix] at *
      refine ld_in (b := b2) h (gx _) ?_
      rw [show Value.int .u8 92 = bv 92 from rfl, o_xorB, ix]
      refine store_sl (b := b2) h rfl (lx _) fun w h => ?_
      rw [sx (· ^^^ 92)] at h
      rw [o_add, i64_of (by omega) (by omega)]
      exact hag (64 - (i + 1)) _ _ (by omega) ⟨i + 1, rfl, rfl, by omega, h⟩
    · have hi2 : i = 64 := by omega
      subst hi2
      rw [List.take_of_length_le (by omega), List.drop_eq_nil_of_le (by rw [filled_length]; omega), List.append_nil, List.take_of_length_le (by omega), List.append_nil] at h
      rw [o_sliceA]
      refine append_full h (xs := ((filled key).map (· ^^^ 54)).map bv) (by simpa using hin) (rds_block (b := b1) (Nat.le_refl _)) (b.map bv) (by simp) (hb.win h.drop.drop.drop.drop) (bv_one b) (by omega) (by omega) fun v3 w Y h hv3 => ?_
      refine Sum_spec (b := (filled key).map (· ^^^ 54) ++ b) h (by rw [List.length_append, hin, List.map_append]; exact hv3) (by simp [filled_length]; omega) fun w h => ?_
      refine hash_var h (sha_length _) fun b3 w h => ?_
      refine dr_sl h fun w h _ => ?_
      rw [o_sliceA, o_sliceA]
      refine append_full h (xs := ((filled key).map (· ^^^ 92)).map bv) (by simpa using hout) (rds_block (b := b2) (Nat.le_refl _)) ((sha ((filled key).map (· ^^^ 54) ++ b)).map bv) (by rw [List.length_map, sha_length]) ((rds_block (b := b3) (n := 32) (c := 32) (Nat.le_refl _)).win h) (bv_one _) (by omega) (by omega) fun v4 w Z h hv4 => ?_
      refine Sum_spec (b := (filled key).map (· ^^^ 92) ++ sha ((filled key).map (· ^^^ 54) ++ b)) h (by rw [List.length_append, hout, sha_length, List.map_append]; exact hv4) (by simp [filled_length, sha_length]) fun w h => ?_
      have h : sat E w (pts b0 (.cells ((List.replicate 32 (0 : UInt8)).map bv).toArray 23 (0, 0)) * (Z * (pts b3 (.cells ((sha ((filled key).map (· ^^^ 54) ++ b)).map bv).toArray 23 (0, 0)) * (Y * (pts b2 (.cells (((filled key).map (· ^^^ 92)).map bv).toArray 41 (0, 0)) * (pts b1 (.cells (((filled key).map (· ^^^ 54)).map bv).toArray 41 (0, 0)) * (X * H))))))) := h.perm (by ac_rfl)
      exact hash_ret (b := b0) h (sha_length _) (by simp) fun w h => k _ h.drop.drop.drop.drop.drop.drop.drop
theorem RTag_spec (h : sat E w H) {vk vb : Value} {key b : List UInt8} (hk : Rds H vk key.length (key.map bv)) (hb : Rds H vb b.length (b.map bv)) (hkl : key.length ≤ 140737488355000) (hbl : b.length + 64 ≤ 140737488355000)
    (k : ∀ w', sat E w' H → K (.agg ((tag key b).map bv).toArray) w') : Calls prog 12 #[vk, vb] w (Ret K) := by
  obtain ⟨ab, cb, rfl, hcb, hb, hab⟩ := hb.shape h
  obtain ⟨ak, ck, rfl, hck, hk, hak⟩ := hk.shape h
  refine c12 ?_
  unfold B12
  refine alloc_sl h fun b0 w h => ?_
  have h : sat E w (pts b0 (.cells ((List.replicate 32 (0 : UInt8)).map bv).toArray 23 (0, 0)) * H) := h
  refine append_sl (osl_nil h 5 1) (key.map bv) (by simp) (hk.win h.drop) (bv_one _) (by omega) (by omega) fun v1 w h => ?_
  simp only [List.nil_append, Nat.zero_add] at h
  refine jn_cut (fun σ w => ∃ v, σ = [v] ∧ sat E w (osl 5 1 v (key0 key).length ((key0 key).map bv) * (pts b0 (.cells ((List.replicate 32 (0 : UInt8)).map bv).toArray 23 (0, 0)) * H))) ?_ ?_
  · intro kk hkk
    obtain ⟨a1, c1, rfl, _, _, _⟩ := osl_shape h
    rw [o_len, o_gtr]
    refine cd_dec (fun hlt => ?_) (fun hge => ?_)
    · have e : key0 key = sha key := by unfold key0; rw [if_pos (by omega)]
      have h := h.drop
      refine RSum_spec h hk.right hkl fun w h => ?_
      refine bytesOf_spec h (sha_length key) fun v w h => ?_
      refine hkk _ _ ⟨_, rfl, ?_⟩
      rw [e, sha_length]
      exact h
    · have e : key0 key = key := by unfold key0; rw [if_neg (by omega)]
      refine hkk _ _ ⟨_, rfl, ?_⟩
      rw [e]
      exact h
  · rintro σ w ⟨v, rfl, h⟩
    have hk0 := key0_length key
    rw [pop_cons, fin_nil]
    refine lp_nat (fun q σ w => ∃ (z : Nat) (v : Value), σ = [v] ∧ q = 64 - (key0 key).length - z ∧ z ≤ 64 - (key0 key).length ∧
      sat E w (osl 5 1 v ((key0 key).length + z) ((key0 key ++ List.replicate z 0).map bv) * (pts b0 (.cells ((List.replicate 32 (0 : UInt8)).map bv).toArray 23 (0, 0)) * H))) (64 - (key0 key).length)
      ⟨0, v, rfl, rfl, by omega, by simpa using h⟩ ?_
    clear h
    rintro q σ w again ⟨z, v, rfl, rfl, hz, h⟩ hag
    obtain ⟨a1, c1, rfl, _, _, _⟩ := osl_shape h
    rw [pop_cons, fin_nil, o_len, o_lss]
    refine cd_dec (fun hlt => ?_) (fun hge => ?_)
    · refine push_sl h rfl rfl (by omega) (by omega) fun v2 w h => ?_
      refine hag (64 - (key0 key).length - (z + 1)) _ _ (by omega) ⟨z + 1, v2, rfl, rfl, by omega, ?_⟩
      have e : (key0 key ++ List.replicate z 0).map bv ++ [Value.int .u8 0] = (key0 key ++ List.replicate (z + 1) 0).map bv := by
        rw [List.replicate_succ']; simp [bv]
      rw [← e]
      exact h
    have hz2 : z = 64 - (key0 key).length := by omega
    subst hz2
    have en : (key0 key).length + (64 - (key0 key).length) = 64 := by omega
    rw [en] at h ⊢
    have h : sat E w (osl 5 1 (.slice a1 64 c1) 64 ((filled key).map bv) * (pts b0 (.cells ((List.replicate 32 (0 : UInt8)).map bv).toArray 23 (0, 0)) * H)) := h
    clear hag hge
    obtain ⟨bm, cm, sp, hv, _, hcm, hP, _⟩ := osl_open h (by omega)
    cases hv
    clear h
    have h := hP
    clear hP
    have hin : ((filled key).map (· ^^^ 54)).length = 64 := by rw [List.length_map, filled_length]
    have hout : ((filled key).map (· ^^^ 92)).length = 64 := by rw [List.length_map, filled_length]
    refine lp_nat (fun q σ w => ∃ (i : Nat) (vi vo : Value), σ = [vi, vo, .int .i64 i] ∧ q = 64 - i ∧ i ≤ 64 ∧
      sat E w (osl 5 1 vo i ((((filled key).map (· ^^^ 92)).take i).map bv) * (osl 5 1 vi i ((((filled key).map (· ^^^ 54)).take i).map bv) * (pts bm (.cells ((filled key).map bv ++ sp).toArray 5 (0, 0)) * (pts b0 (.cells ((List.replicate 32 (0 : UInt8)).map bv).toArray 23 (0, 0)) * H))))) 64
      ⟨0, _, _, rfl, rfl, by omega, osl_nil (osl_nil h 5 1) 5 1⟩ ?_
    clear h
    rintro q σ w again ⟨i, vi, vo, rfl, rfl, hi, h⟩ hag
    rw [pop_cons, pop_cons, pop_cons, fin_nil, o_lss]
    refine cd_dec (fun hlt => ?_) (fun hge => ?_)
    · have hlt : i < 64 := by omega
      have ix : ∀ {w : World} {K : Value → World → Prop}, pvv prog (Instr.indexAt 25 (.slice (some ⟨bm, 0, none⟩) 64 c1) (.int .i64 (i : Int))) w K = K (.pointer (some ⟨bm, i, none⟩)) w := fun {w K} => by
        rw [o_index (by omega) (by omega)]; simp
      have gx : (((filled key).map bv ++ sp))[i]? = some (bv ((filled key).getD i 0)) := by
        rw [List.getElem?_append_left (by simp [filled_length]; omega)]
        exact getbv (by rw [filled_length]; exact hlt)
      have tx : ∀ (f : UInt8 → UInt8), ((((filled key).map f).take i).map bv) ++ [bv (f ((filled key).getD i 0))] = (((filled key).map f).take (i + 1)).map bv := fun f => by
        have hl : i < (filled key).length := by rw [filled_length]; exact hlt
        rw [List.take_succ_eq_append_getElem (by simpa using hl)]
        simp [List.getD_eq_getElem?_getD, hl]
      rw [ix]
      refine ld_in (b := bm) h gx ?_
      rw [show Value.int .u8 54 = bv 54 from rfl, o_xorB]
      refine push_sl (v := vi) h rfl rfl (by omega) (by omega) fun vi2 w h => ?_
      rw [ix]
      refine ld_in (b := bm) h gx ?_
      rw [show Value.int .u8 92 = bv 92 from rfl, o_xorB]
      refine push_sl (v := vo) h rfl rfl (by omega) (by omega) fun vo2 w h => ?_
      rw [o_add, i64_of (by omega) (by omega)]
      refine hag (64 - (i + 1)) _ _ (by omega) ⟨i + 1, vi2, vo2, rfl, rfl, by omega, ?_⟩
      rw [tx (· ^^^ 54), tx (· ^^^ 92)] at h
      exact h
    have hi2 : i = 64 := by omega
    subst hi2
    rw [List.take_of_length_le (by omega), List.take_of_length_le (by omega)] at h
    refine append_sl (v := vi) h (b.map bv) (by simp) (hb.win h.drop.drop.drop.drop) (bv_one b) (by omega) (by omega) fun v3 w h => ?_
    have hr : Rds (osl 5 1 v3 (64 + b.length) (((filled key).map (· ^^^ 54)).map bv ++ b.map bv) * (osl 5 1 vo 64 (((filled key).map (· ^^^ 92)).map bv) * (pts bm (.cells ((filled key).map bv ++ sp).toArray 5 (0, 0)) * (pts b0 (.cells ((List.replicate 32 (0 : UInt8)).map bv).toArray 23 (0, 0)) * H)))) v3 ((filled key).map (· ^^^ 54) ++ b).length (((filled key).map (· ^^^ 54) ++ b).map bv) := by
      rw [List.length_append, hin, List.map_append]; exact Rds.osl.left
    refine RSum_spec (b := (filled key).map (· ^^^ 54) ++ b) h hr (by simp [filled_length]; omega) fun w h => ?_
    refine bytesOf_spec h (sha_length _) fun v4 w h => ?_
    obtain ⟨a4, c4, rfl, _, _, _⟩ := osl_shape h
    refine append_sl (v := vo) h ((sha ((filled key).map (· ^^^ 54) ++ b)).map bv) (by rw [List.length_map, sha_length]) (Rds.osl.win h.drop') (bv_one _) (by omega) (by omega) fun v5 w h => ?_
    have hr : ∀ {Y : HP}, Rds (osl 5 1 v5 (64 + 32) (((filled key).map (· ^^^ 92)).map bv ++ (sha ((filled key).map (· ^^^ 54) ++ b)).map bv) * Y) v5 ((filled key).map (· ^^^ 92) ++ sha ((filled key).map (· ^^^ 54) ++ b)).length (((filled key).map (· ^^^ 92) ++ sha ((filled key).map (· ^^^ 54) ++ b)).map bv) := by
      intro Y
      rw [List.length_append, hout, sha_length, List.map_append]; exact Rds.osl.left
    refine RSum_spec (b := (filled key).map (· ^^^ 92) ++ sha ((filled key).map (· ^^^ 54) ++ b)) h hr (by simp [filled_length, sha_length]) fun w h => ?_
    refine hash_ret (b := b0) h (sha_length _) (by simp) fun w h => k _ ?_
    exact h.drop.drop.drop.drop.drop
end Go.Proofs.YtjmgkfpjaelilaaDoor
