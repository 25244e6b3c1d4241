/-
  Tags: keys filled to a block, the code's and the reference's; links of a chain; hashes compared.
-/
import Derived.Test.YtjeiojibnmfibaaDoorHshM
set_option linter.all false
set_option maxRecDepth 10000
namespace Go.Proofs.YtjeiojibnmfibaaDoor
open Go Hold
variable {E : World0} {w : World} {H R : HP} {K : Value → World → Prop}
def key0 (key : List UInt8) : List UInt8 := if 64 < key.length then sha key else key
def filled (key : List UInt8) : List UInt8 := key0 key ++ List.replicate (64 - (key0 key).length) 0
def tag (key b : List UInt8) : List UInt8 := sha ((filled key).map (· ^^^ 92) ++ sha ((filled key).map (· ^^^ 54) ++ b))
theorem key0_length (key : List UInt8) : (key0 key).length ≤ 64 := by
  unfold key0; split
  · rw [sha_length]; omega
  · omega
theorem filled_length (key : List UInt8) : (filled key).length = 64 := by
  have := key0_length key
  simp [filled]; omega
theorem tag_length (key b : List UInt8) : (tag key b).length = 32 := sha_length _
/-- A hash in a block of its own. -/
theorem hash_var (h : sat E w H) {l : List UInt8} (hl : l.length = 32) {K : Value → World → Prop}
    (k : ∀ b w', sat E w' (pts b (.cells (l.map bv).toArray 36 (0, 0)) * H) → K (.pointer (some ⟨b, 0, none⟩)) w') :
    efv prog (Instr.alloc 36 true (.tuple #[])) w fun x w => efu prog (Instr.storeAt 36 x (.agg (l.map bv).toArray)) w fun _ w => K x w := by
  refine alloc_sl h fun b w h => ?_
  have h : sat E w (pts b (.cells (List.replicate 32 (bv 0)).toArray 36 (0, 0)) * H) := h
  refine storeN_sl (b := b) h (aggC_36).size (vs := l.map bv) (by simp [Value.cells]) (by simpa using hl) (bv_one _) (by simp) fun w h => ?_
  have e : (List.replicate 32 (bv 0)).take 0 ++ l.map bv ++ (List.replicate 32 (bv 0)).drop (0 + 32) = l.map bv := by simp
  rw [e] at h
  exact k b w h
/-- A hash is stored into its result, and handed back. -/
theorem hash_ret (h : sat E w H) {b : Nat} {l ol : List UInt8} (hl : l.length = 32) (hol : ol.length = 32) [Own H b (.cells (ol.map bv).toArray 36 (0, 0)) R] {K : Value → World → Prop}
    (k : ∀ w', sat E w' (pts b (.cells (l.map bv).toArray 36 (0, 0)) * R) → K (.agg (l.map bv).toArray) w') :
    efu prog (Instr.storeAt 36 (.pointer (some ⟨b, 0, none⟩)) (.agg (l.map bv).toArray)) w fun _ w =>
      ∃ r, (do loadVar 36 (← asAddr (.pointer (some ⟨b, 0, none⟩)))).run prog w = .ok r w ∧ K r w := by
  refine storeN_sl (b := b) h (aggC_36).size (vs := l.map bv) (by simp [Value.cells]) (by simpa using hl) (bv_one _) (by simp [hol]) fun w h => ?_
  have e : (ol.map bv).take 0 ++ l.map bv ++ (ol.map bv).drop (0 + 32) = l.map bv := by
    rw [List.drop_eq_nil_of_le (by simp [hol])]; simp
  rw [e] at h
  exact res_agg (b := b) h (by simpa using hl) (k _ h)
theorem rds_block {b e : Nat} {n c : Nat} {xs : List Value} {fr : Nat × Nat} [hb : Has H b (.cells xs.toArray e fr)] (hc : n ≤ c) : Rds H (.slice (some ⟨b, 0, none⟩) n c) n xs := fun E w hs =>
  ⟨_, c, rfl, hc, .inr ⟨b, 0, _, _, _, rfl, hb.get hs, fun j v hj => by simpa using hj⟩⟩
theorem take_get {l : List UInt8} {i : Nat} (h : i < l.length) : l.take (i + 1) = l.take i ++ [l.getD i 0] := by
  rw [List.take_succ_eq_append_getElem h]
  simp [List.getD_eq_getElem?_getD, h]
theorem take_bv {l : List UInt8} {i : Nat} (h : i < l.length) : (l.take i).map bv ++ [bv (l.getD i 0)] = (l.take (i + 1)).map bv := by
  rw [take_get h, List.map_append]; rfl
theorem bytesOf_spec (h : sat E w H) {l : List UInt8} (hl : l.length = 32) (k : ∀ v w', sat E w' (osl 5 1 v 32 (l.map bv) * H) → K v w') : Calls prog 54 #[.agg (l.map bv).toArray] w (Ret K) := by
  refine c54 ?_
  unfold B54
  refine box_sl h fun b1 w h => ?_
  have h : sat E w (pts b1 (.cells (l.map bv).toArray 36 (0, 0)) * H) := h
  refine lp_nat (fun q σ w => ∃ (i : Nat) (v : Value), σ = [v, .int .i64 i] ∧ q = 32 - i ∧ i ≤ 32 ∧ sat E w (osl 5 1 v i ((l.take i).map bv) * (pts b1 (.cells (l.map bv).toArray 36 (0, 0)) * H))) 32
    ⟨0, _, rfl, rfl, by omega, osl_nil h 5 1⟩ ?_
  rintro q σ w again ⟨i, v, rfl, rfl, hi, h⟩ hag
  rw [pop_cons, pop_cons, fin_nil, o_lss]
  refine cd_dec (fun hlt => ?_) (fun hge => ?_)
  · rw [o_indexA (by omega) (by omega)]
    refine ld_in (b := b1) (o := 0 + (i : Int).toNat) (v := bv (l.getD i 0)) h (by rw [Nat.zero_add]; exact getbv (by rw [Int.toNat_natCast]; omega)) ?_
    refine push_sl h rfl rfl (by omega) (by omega) fun v2 w h => ?_
    rw [o_add, i64_of (by omega) (by omega)]
    refine hag (32 - (i + 1)) _ _ (by omega) ⟨i + 1, v2, rfl, rfl, by omega, ?_⟩
    rw [← take_bv (show i < l.length by omega)]; exact h
  · have hi2 : i = 32 := by omega
    subst hi2
    rw [List.take_of_length_le (by omega)] at h
    exact k _ _ (h.lose b1)
theorem Chain_spec (h : sat E w H) {l b : List UInt8} (hl : l.length = 32) {v : Value} (hb : Rds H v b.length (b.map bv)) (hbl : b.length + 32 ≤ 140737488355000) (k : ∀ w', sat E w' H → K (.agg ((sha (l ++ b)).map bv).toArray) w') : Calls prog 46 #[.agg (l.map bv).toArray, v] w (Ret K) := by
  obtain ⟨a, c, rfl, hc, hb, ha⟩ := hb.shape h
  refine c46 ?_
  unfold B46
  refine box_sl h fun b1 w h => ?_
  have h : sat E w (pts b1 (.cells (l.map bv).toArray 36 (0, 0)) * H) := h
  refine alloc_sl h fun b2 w h => ?_
  have h : sat E w (pts b2 (.cells ((List.replicate 32 (0 : UInt8)).map bv).toArray 36 (0, 0)) * (pts b1 (.cells (l.map bv).toArray 36 (0, 0)) * H)) := h
  rw [o_sliceA]
  refine append_full h (xs := l.map bv) (by simpa using hl) (rds_block (b := b1) (Nat.le_refl _)) (b.map bv) (by simp) (hb.win h.drop.drop) (bv_one b) (by omega) (by omega) fun v3 w X h hv3 => ?_
  refine Sum_spec (b := l ++ b) h (by rw [List.length_append, hl, List.map_append]; exact hv3) (by simp; omega) fun w h => ?_
  exact hash_ret (b := b2) h (sha_length _) (by simp) fun w h => k _ h.drop.drop.drop
end Go.Proofs.YtjeiojibnmfibaaDoor
