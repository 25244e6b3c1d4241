/-
  The reference's digits, read and written.
-/
import Derived.Test.YtjmgkfpjaelilaaHshS
set_option linter.all false
set_option maxRecDepth 10000
namespace Go.Proofs.Ytjmgkfpjaelilaa
open Go Hold
variable {E : World0} {w : World} {H R : HP} {K : Value → World → Prop}
def cellAt (s : List UInt8) (i j : Nat) : UInt8 := if 2 * j + 1 < i then pair s j else if 2 * j < i then UInt8.ofNat (val (s.getD (2 * j) 0)) else 0
def cellsAt (s : List UInt8) (i : Nat) : List UInt8 := (List.range 32).map (cellAt s i)
theorem cellsAt_length (s : List UInt8) (i : Nat) : (cellsAt s i).length = 32 := by simp [cellsAt]
theorem cellsAt_get {s : List UInt8} {i j : Nat} (h : j < 32) : (cellsAt s i).getD j 0 = cellAt s i j := by
  simp [cellsAt, List.getD_eq_getElem?_getD, h]
theorem cellsAt_zero (s : List UInt8) : cellsAt s 0 = zeros32 := by
  have : ∀ j, cellAt s 0 j = 0 := fun j => by unfold cellAt; rw [if_neg (by omega), if_neg (by omega)]
  have e : cellAt s 0 = fun _ => 0 := funext this
  unfold cellsAt; rw [e]; rfl
theorem cellsAt_end (s : List UInt8) : cellsAt s 64 = pairs s 32 := by
  unfold cellsAt pairs
  refine List.map_congr_left fun j hj => ?_
  have := List.mem_range.1 hj
  unfold cellAt
  rw [if_pos (by omega)]
theorem or4b : ∀ a b : Fin 16, (UInt8.ofNat (a.val * 16) ||| UInt8.ofNat b.val) = UInt8.ofNat (a.val * 16 + b.val) := by decide +kernel
theorem cellsAt_succ {s : List UInt8} {i : Nat} (hi : i < 64) (hv : val (s.getD i 0) < 16) (hp : ∀ j, j < i → val (s.getD j 0) < 16) :
    (cellsAt s i).set (i / 2) (UInt8.ofNat ((cellAt s i (i / 2)).toNat * 16) ||| UInt8.ofNat (val (s.getD i 0))) = cellsAt s (i + 1) := by
  apply List.ext_getElem?
  intro j
  rw [List.getElem?_set, cellsAt_length]
  by_cases hj : j < 32
  · have e : ∀ i, (cellsAt s i)[j]? = some (cellAt s i j) := fun i => by simp [cellsAt, hj]
    rw [e, e]
    by_cases h1 : i / 2 = j
    · subst h1
      rw [if_pos rfl, if_pos hj]
      congr 1
      by_cases h2 : i % 2 = 0
      · have e1 : cellAt s i (i / 2) = 0 := by unfold cellAt; rw [if_neg (by omega), if_neg (by omega)]
        have e2 : cellAt s (i + 1) (i / 2) = UInt8.ofNat (val (s.getD i 0)) := by
          unfold cellAt
          rw [if_neg (by omega), if_pos (by omega), show 2 * (i / 2) = i by omega]
        rw [e1, e2]
        have := or4b ⟨0, by omega⟩ ⟨_, hv⟩
        simpa using this
      · have hv2 := hp (i - 1) (by omega)
        have e1 : cellAt s i (i / 2) = UInt8.ofNat (val (s.getD (i - 1) 0)) := by
          unfold cellAt
          rw [if_neg (by omega), if_pos (by omega), show 2 * (i / 2) = i - 1 by omega]
        have e2 : cellAt s (i + 1) (i / 2) = UInt8.ofNat (val (s.getD (i - 1) 0) * 16 + val (s.getD i 0)) := by
          unfold cellAt pair
          rw [if_pos (by omega), show 2 * (i / 2) + 1 = i by omega, show 2 * (i / 2) = i - 1 by omega]
        rw [e1, e2]
        have := or4b ⟨_, hv2⟩ ⟨_, hv⟩
        have e3 : (UInt8.ofNat (val (s.getD (i - 1) 0))).toNat = val (s.getD (i - 1) 0) := by rw [UInt8.toNat_ofNat']; omega
        rw [e3]
        exact this
    · rw [if_neg h1]
      congr 1
      unfold cellAt
      by_cases h3 : 2 * j + 1 < i
      · rw [if_pos h3, if_pos (by omega)]
      · by_cases h4 : 2 * j < i
        · omega
        · rw [if_neg h3, if_neg h4, if_neg (by omega), if_neg (by omega)]
  · have e : ∀ i, (cellsAt s i)[j]? = none := fun i => by simp [cellsAt]; omega
    rw [e, e]
    split
    · rw [if_neg (by omega)]
    · rfl
theorem RUnHex_spec (h : sat E w H) (s : List UInt8) (k : ∀ w', sat E w' H → K (hv2 (unhex s)) w') : Calls prog 19 #[tv s] w (Ret K) := by
  refine c19 ?_
  unfold B19
  refine alloc_sl h fun b0 w h => ?_
  have h : sat E w (pts b0 (.cells (zeros32.map bv).toArray 23 (0, 0)) * H) := h
  rw [o_lenT, o_neInt]
  refine cd_dec' (fun heq => ?_) (fun hne => ?_)
  · have hl : s.length = 64 := by omega
    refine alloc_sl h fun b1 w h => ?_
    have h : sat E w (pts b1 (.cells (zeros32.map bv).toArray 23 (0, 0)) * (pts b0 (.cells (zeros32.map bv).toArray 23 (0, 0)) * H)) := h
    refine lp_nat (fun q σ w => ∃ i : Nat, σ = [.int .i64 i] ∧ q = 64 - i ∧ i ≤ 64 ∧ (∀ j, j < i → val (s.getD j 0) < 16) ∧ sat E w (pts b1 (.cells ((cellsAt s i).map bv).toArray 23 (0, 0)) * (pts b0 (.cells (zeros32.map bv).toArray 23 (0, 0)) * H))) 64 ⟨0, rfl, rfl, by omega, fun j hj => by omega, by rw [cellsAt_zero]; exact h⟩ ?_
    clear h
    rintro q σ w again ⟨i, rfl, rfl, hi, hg, h⟩ hag
    rw [pop_cons, fin_nil, o_lss]
    refine cd_dec (fun hlt => ?_) (fun hge => ?_)
    · have hlt : i < 64 := by omega
      refine jn_cut (fun σ w => σ = [bv (UInt8.ofNat (val (s.getD i 0)))] ∧ val (s.getD i 0) < 16 ∧ sat E w (pts b1 (.cells ((cellsAt s i).map bv).toArray 23 (0, 0)) * (pts b0 (.cells (zeros32.map bv).toArray 23 (0, 0)) * H))) ?_ ?_
      · intro kk hkk
        have ix : ∀ {w : World} {K : Value → World → Prop}, pvv prog (Instr.index 9 (tv s) (.int .i64 (i : Int))) w K = K (.int .u8 ((s.getD i 0).toNat : Int)) w := fun {w K} => by
          rw [o_indexT (by omega) (by rw [Int.toNat_natCast]; omega), Int.toNat_natCast]; rfl
        have hc := (s.getD i 0).toNat_lt
        generalize hcd : s.getD i 0 = c at *
        simp only [ix, ↓o_nil, ↓o_field, ↓o_add, ↓o_sub, ↓o_mul, ↓o_lss, ↓o_leq, ↓o_gtr, ↓o_geq, ↓o_not, ↓o_pick, ↓o_eqInt, ↓o_neInt, ↓o_eqBool, ↓o_neBool, ↓o_eqPtr, ↓o_nePtr, ↓o_eqPtr', ↓o_eqSl, ↓o_neSl, ↓o_eqStr, ↓o_neStr, ↓o_len, ↓o_lenS, ↓o_min, ↓o_max, ↓o_extract, ↓o_convInt, ↓cd_true, ↓cd_false, ↓gate_tt, ↓gate_ff, ↓gate_tf, ↓gate_ft, ↓gate_undef, ↓o_bind, ↓stay_v, ↓pop_cons, ↓fin_nil, Option.isNone_none, Option.isNone_some, Bool.not_true, Bool.not_false, Nat.zero_add, decide_true, decide_false, if_true, if_false, Bool.false_eq_true, ↓reduceIte]
        by_cases h1 : 48 ≤ c.toNat
        · have f1 : (48 : Int) ≤ c.toNat := by omega
          simp only [f1, ix, ↓o_nil, ↓o_field, ↓o_add, ↓o_sub, ↓o_mul, ↓o_lss, ↓o_leq, ↓o_gtr, ↓o_geq, ↓o_not, ↓o_pick, ↓o_eqInt, ↓o_neInt, ↓o_eqBool, ↓o_neBool, ↓o_eqPtr, ↓o_nePtr, ↓o_eqPtr', ↓o_eqSl, ↓o_neSl, ↓o_eqStr, ↓o_neStr, ↓o_len, ↓o_lenS, ↓o_min, ↓o_max, ↓o_extract, ↓o_convInt, ↓cd_true, ↓cd_false, ↓gate_tt, ↓gate_ff, ↓gate_tf, ↓gate_ft, ↓gate_undef, ↓o_bind, ↓stay_v, ↓pop_cons, ↓fin_nil, Option.isNone_none, Option.isNone_some, Bool.not_true, Bool.not_false, Nat.zero_add, decide_true, decide_false, if_true, if_false, Bool.false_eq_true, ↓reduceIte]
          by_cases h2 : c.toNat ≤ 57
          · have f2 : (c.toNat : Int) ≤ 57 := by omega
            simp only [f2, ix, ↓o_nil, ↓o_field, ↓o_add, ↓o_sub, ↓o_mul, ↓o_lss, ↓o_leq, ↓o_gtr, ↓o_geq, ↓o_not, ↓o_pick, ↓o_eqInt, ↓o_neInt, ↓o_eqBool, ↓o_neBool, ↓o_eqPtr, ↓o_nePtr, ↓o_eqPtr', ↓o_eqSl, ↓o_neSl, ↓o_eqStr, ↓o_neStr, ↓o_len, ↓o_lenS, ↓o_min, ↓o_max, ↓o_extract, ↓o_convInt, ↓cd_true, ↓cd_false, ↓gate_tt, ↓gate_ff, ↓gate_tf, ↓gate_ft, ↓gate_undef, ↓o_bind, ↓stay_v, ↓pop_cons, ↓fin_nil, Option.isNone_none, Option.isNone_some, Bool.not_true, Bool.not_false, Nat.zero_add, decide_true, decide_false, if_true, if_false, Bool.false_eq_true, ↓reduceIte]
            have ev : val c = c.toNat - 48 := by unfold val; rw [if_pos ⟨h1, h2⟩]
            have e : Value.int .u8 (IntKind.u8.wrap ((c.toNat : Int) - 48)) = bv (UInt8.ofNat (val c)) := by
              unfold bv; rw [IntKind.wrap_u8, ev]; congr 1; simp; omega
            rw [e]
            exact hkk _ _ ⟨rfl, by omega, h⟩
          · have f2 : ¬ (c.toNat : Int) ≤ 57 := by omega
            simp only [f2, ix, ↓o_nil, ↓o_field, ↓o_add, ↓o_sub, ↓o_mul, ↓o_lss, ↓o_leq, ↓o_gtr, ↓o_geq, ↓o_not, ↓o_pick, ↓o_eqInt, ↓o_neInt, ↓o_eqBool, ↓o_neBool, ↓o_eqPtr, ↓o_nePtr, ↓o_eqPtr', ↓o_eqSl, ↓o_neSl, ↓o_eqStr, ↓o_neStr, ↓o_len, ↓o_lenS, ↓o_min, ↓o_max, ↓o_extract, ↓o_convInt, ↓cd_true, ↓cd_false, ↓gate_tt, ↓gate_ff, ↓gate_tf, ↓gate_ft, ↓gate_undef, ↓o_bind, ↓stay_v, ↓pop_cons, ↓fin_nil, Option.isNone_none, Option.isNone_some, Bool.not_true, Bool.not_false, Nat.zero_add, decide_true, decide_false, if_true, if_false, Bool.false_eq_true, ↓reduceIte]
            by_cases h3 : 97 ≤ c.toNat
            · have f3 : (97 : Int) ≤ c.toNat := by omega
              simp only [f3, ix, ↓o_nil, ↓o_field, ↓o_add, ↓o_sub, ↓o_mul, ↓o_lss, ↓o_leq, ↓o_gtr, ↓o_geq, ↓o_not, ↓o_pick, ↓o_eqInt, ↓o_neInt, ↓o_eqBool, ↓o_neBool, ↓o_eqPtr, ↓o_nePtr, ↓o_eqPtr', ↓o_eqSl, ↓o_neSl, ↓o_eqStr, ↓o_neStr, ↓o_len, ↓o_lenS, ↓o_min, ↓o_max, ↓o_extract, ↓o_convInt, ↓cd_true, ↓cd_false, ↓gate_tt, ↓gate_ff, ↓gate_tf, ↓gate_ft, ↓gate_undef, ↓o_bind, ↓stay_v, ↓pop_cons, ↓fin_nil, Option.isNone_none, Option.isNone_some, Bool.not_true, Bool.not_false, Nat.zero_add, decide_true, decide_false, if_true, if_false, Bool.false_eq_true, ↓reduceIte]
              by_cases h4 : c.toNat ≤ 102
              · have f4 : (c.toNat : Int) ≤ 102 := by omega
                simp only [f4, ix, ↓o_nil, ↓o_field, ↓o_add, ↓o_sub, ↓o_mul, ↓o_lss, ↓o_leq, ↓o_gtr, ↓o_geq, ↓o_not, ↓o_pick, ↓o_eqInt, ↓o_neInt, ↓o_eqBool, ↓o_neBool, ↓o_eqPtr, ↓o_nePtr, ↓o_eqPtr', ↓o_eqSl, ↓o_neSl, ↓o_eqStr, ↓o_neStr, ↓o_len, ↓o_lenS, ↓o_min, ↓o_max, ↓o_extract, ↓o_convInt, ↓cd_true, ↓cd_false, ↓gate_tt, ↓gate_ff, ↓gate_tf, ↓gate_ft, ↓gate_undef, ↓o_bind, ↓stay_v, ↓pop_cons, ↓fin_nil, Option.isNone_none, Option.isNone_some, Bool.not_true, Bool.not_false, Nat.zero_add, decide_true, decide_false, if_true, if_false, Bool.false_eq_true, ↓reduceIte]
                have ev : val c = c.toNat - 87 := by unfold val; rw [if_neg (by omega), if_pos ⟨h3, h4⟩]
                have e : Value.int .u8 (IntKind.u8.wrap (IntKind.u8.wrap ((c.toNat : Int) - 97) + 10)) = bv (UInt8.ofNat (val c)) := by
                  unfold bv; rw [IntKind.wrap_u8, IntKind.wrap_u8, ev]; congr 1; simp; omega
                rw [e]
                exact hkk _ _ ⟨rfl, by omega, h⟩
              · have f4 : ¬ (c.toNat : Int) ≤ 102 := by omega
                simp only [f4, ix, ↓o_nil, ↓o_field, ↓o_add, ↓o_sub, ↓o_mul, ↓o_lss, ↓o_leq, ↓o_gtr, ↓o_geq, ↓o_not, ↓o_pick, ↓o_eqInt, ↓o_neInt, ↓o_eqBool, ↓o_neBool, ↓o_eqPtr, ↓o_nePtr, ↓o_eqPtr', ↓o_eqSl, ↓o_neSl, ↓o_eqStr, ↓o_neStr, ↓o_len, ↓o_lenS, ↓o_min, ↓o_max, ↓o_extract, ↓o_convInt, ↓cd_true, ↓cd_false, ↓gate_tt, ↓gate_ff, ↓gate_tf, ↓gate_ft, ↓gate_undef, ↓o_bind, ↓stay_v, ↓pop_cons, ↓fin_nil, Option.isNone_none, Option.isNone_some, Bool.not_true, Bool.not_false, Nat.zero_add, decide_true, decide_false, if_true, if_false, Bool.false_eq_true, ↓reduceIte]
                have hv : ¬ val (s.getD i 0) < 16 := by rw [hcd]; unfold val; rw [if_neg (by omega), if_neg (by omega)]; omega
                refine zeros_build ?_
                refine hash_ret2 (b := b0) h zeros32_length zeros32_length fun w h => ?_
                rw [unhex_bad (by omega) hv] at k
                exact k _ h.drop.drop
            · have f3 : ¬ (97 : Int) ≤ c.toNat := by omega
              simp only [f3, ix, ↓o_nil, ↓o_field, ↓o_add, ↓o_sub, ↓o_mul, ↓o_lss, ↓o_leq, ↓o_gtr, ↓o_geq, ↓o_not, ↓o_pick, ↓o_eqInt, ↓o_neInt, ↓o_eqBool, ↓o_neBool, ↓o_eqPtr, ↓o_nePtr, ↓o_eqPtr', ↓o_eqSl, ↓o_neSl, ↓o_eqStr, ↓o_neStr, ↓o_len, ↓o_lenS, ↓o_min, ↓o_max, ↓o_extract, ↓o_convInt, ↓cd_true, ↓cd_false, ↓gate_tt, ↓gate_ff, ↓gate_tf, ↓gate_ft, ↓gate_undef, ↓o_bind, ↓stay_v, ↓pop_cons, ↓fin_nil, Option.isNone_none, Option.isNone_some, Bool.not_true, Bool.not_false, Nat.zero_add, decide_true, decide_false, if_true, if_false, Bool.false_eq_true, ↓reduceIte]
              have hv : ¬ val (s.getD i 0) < 16 := by rw [hcd]; unfold val; rw [if_neg (by omega), if_neg (by omega)]; omega
              refine zeros_build ?_
              refine hash_ret2 (b := b0) h zeros32_length zeros32_length fun w h => ?_
              rw [unhex_bad (by omega) hv] at k
              exact k _ h.drop.drop
        · have f1 : ¬ (48 : Int) ≤ c.toNat := by omega
          simp only [f1, ix, ↓o_nil, ↓o_field, ↓o_add, ↓o_sub, ↓o_mul, ↓o_lss, ↓o_leq, ↓o_gtr, ↓o_geq, ↓o_not, ↓o_pick, ↓o_eqInt, ↓o_neInt, ↓o_eqBool, ↓o_neBool, ↓o_eqPtr, ↓o_nePtr, ↓o_eqPtr', ↓o_eqSl, ↓o_neSl, ↓o_eqStr, ↓o_neStr, ↓o_len, ↓o_lenS, ↓o_min, ↓o_max, ↓o_extract, ↓o_convInt, ↓cd_true, ↓cd_false, ↓gate_tt, ↓gate_ff, ↓gate_tf, ↓gate_ft, ↓gate_undef, ↓o_bind, ↓stay_v, ↓pop_cons, ↓fin_nil, Option.isNone_none, Option.isNone_some, Bool.not_true, Bool.not_false, Nat.zero_add, decide_true, decide_false, if_true, if_false, Bool.false_eq_true, ↓reduceIte]
          have f3 : ¬ (97 : Int) ≤ c.toNat := by omega
          simp only [f3, ix, ↓o_nil, ↓o_field, ↓o_add, ↓o_sub, ↓o_mul, ↓o_lss, ↓o_leq, ↓o_gtr, ↓o_geq, ↓o_not, ↓o_pick, ↓o_eqInt, ↓o_neInt, ↓o_eqBool, ↓o_neBool, ↓o_eqPtr, ↓o_nePtr, ↓o_eqPtr', ↓o_eqSl, ↓o_neSl, ↓o_eqStr, ↓o_neStr, ↓o_len, ↓o_lenS, ↓o_min, ↓o_max, ↓o_extract, ↓o_convInt, ↓cd_true, ↓cd_false, ↓gate_tt, ↓gate_ff, ↓gate_tf, ↓gate_ft, ↓gate_undef, ↓o_bind, ↓stay_v, ↓pop_cons, ↓fin_nil, Option.isNone_none, Option.isNone_some, Bool.not_true, Bool.not_false, Nat.zero_add, decide_true, decide_false, if_true, if_false, Bool.false_eq_true, ↓reduceIte]
          have hv : ¬ val (s.getD i 0) < 16 := by rw [hcd]; unfold val; rw [if_neg (by omega), if_neg (by omega)]; omega
          refine zeros_build ?_
          refine hash_ret2 (b := b0) h zeros32_length zeros32_length fun w h => ?_
          rw [unhex_bad (by omega) hv] at k
          exact k _ h.drop.drop
      · rintro σ w ⟨rfl, hv, h⟩
        have e0 : IntKind.i64.wrap ((i : Int).tdiv 2) = ((i / 2 : Nat) : Int) := by
          rw [Int.tdiv_eq_ediv_of_nonneg (by omega), i64_of (by omega) (by omega)]; omega
        rw [pop_cons, fin_nil, o_quo (by decide), o_quo (by decide), e0, o_indexA (by omega) (by omega)]
        refine ld_in (b := b1) (o := 0 + ((i / 2 : Nat) : Int).toNat) (v := bv (cellAt s i (i / 2))) h (by
          have := getbv (l := cellsAt s i) (j := i / 2) (by rw [cellsAt_length]; omega)
          rw [cellsAt_get (by omega)] at this
          rw [Nat.zero_add, Int.toNat_natCast]; exact this) ?_
        have e1 : ∀ x : UInt8, Value.int .u8 (IntKind.u8.wrap ((x.toNat : Int) * 2 ^ 4)) = bv (UInt8.ofNat (x.toNat * 16)) := fun x => by
          unfold bv; rw [IntKind.wrap_u8]; congr 1
        rw [show bv (cellAt s i (i / 2)) = Value.int .u8 (cellAt s i (i / 2)).toNat from rfl, show Value.int .u64 4 = Value.int .u64 ((4 : Nat) : Int) from rfl, o_shl (by decide), e1, o_orB, o_indexA (by omega) (by omega)]
        refine store_sl (b := b1) (o := 0 + ((i / 2 : Nat) : Int).toNat) h rfl (by rw [List.length_map, cellsAt_length, Int.toNat_natCast]; omega) fun w h => ?_
        rw [o_add, i64_of (by omega) (by omega)]
        refine hag (64 - (i + 1)) _ _ (by omega) ⟨i + 1, rfl, rfl, by omega, fun j hj => ?_, ?_⟩
        · by_cases c1 : j < i
          · exact hg j c1
          · rw [show j = i by omega]; exact hv
        · rw [Nat.zero_add, Int.toNat_natCast, ← List.map_set, cellsAt_succ hlt hv hg] at h
          exact h
    · have hi2 : i = 64 := by omega
      subst hi2
      rw [cellsAt_end] at h
      refine ld_agg (b := b1) h (by simp [pairs_length]) ?_
      refine hash_ret2 (b := b0) h (pairs_length _ _) zeros32_length fun w h => ?_
      rw [unhex_good hl hg] at k
      exact k _ h.drop.drop
  · refine zeros_build ?_
    have e : unhex s = (zeros32, 3) := by unfold unhex; rw [if_neg (by omega)]
    refine hash_ret2 (b := b0) h zeros32_length zeros32_length fun w h => ?_
    rw [e] at k
    exact k _ h.drop
theorem digs_cut : ∀ n, n < 16 → (digs.drop n).take (n + 1 - n) = [dig n] := by decide
theorem o_digS {n : Nat} (hn : n < 16) {K : Value → World → Prop} : pvv prog (Instr.sliceAt 9 (.string ⟨#[48, 49, 50, 51, 52, 53, 54, 55, 56, 57, 97, 98, 99, 100, 101, 102]⟩) (some (.int .u8 (n : Int))) (some (.int .u8 ((n + 1 : Nat) : Int))) none) w K = K (tv [dig n]) w := by
  have := o_sliceT (P := prog) (w := w) (K := K) (t := 9) (l := digs) (k := .u8) (k' := .u8) (x := (n : Int)) (y := ((n + 1 : Nat) : Int)) (by omega) (by omega) (by show ((n + 1 : Nat) : Int) ≤ (16 : Nat); omega)
  rw [Int.toNat_natCast, Int.toNat_natCast, digs_cut n hn] at this
  exact this
theorem RHex_spec (h : sat E w H) {l : List UInt8} (hl : l.length = 32) (k : ∀ w', sat E w' H → K (tv (hex l)) w') : Calls prog 21 #[.agg (l.map bv).toArray] w (Ret K) := by
  refine c21 ?_
  unfold B21
  refine box_sl h fun b1 w h => ?_
  have h : sat E w (pts b1 (.cells (l.map bv).toArray 23 (0, 0)) * H) := h
  refine lp_nat (fun q σ w => ∃ i : Nat, σ = [tv (hex (l.take i)), .int .i64 i] ∧ q = 32 - i ∧ i ≤ 32 ∧ sat E w (pts b1 (.cells (l.map bv).toArray 23 (0, 0)) * H)) 32 ⟨0, rfl, rfl, by omega, h⟩ ?_
  clear h
  rintro q σ w again ⟨i, rfl, rfl, hi, h⟩ hag
  rw [pop_cons, pop_cons, fin_nil, o_lss]
  refine cd_dec (fun hlt => ?_) (fun hge => ?_)
  · have hlt : i < 32 := by omega
    refine dr_sl h fun w h _ => ?_
    have ix : ∀ {w : World} {K : Value → World → Prop}, pvv prog (Instr.indexAt 23 (.pointer (some ⟨b1, 0, none⟩)) (.int .i64 (i : Int))) w K = K (.pointer (some ⟨b1, i, none⟩)) w := fun {w K} => by
      rw [o_indexA (by omega) (by omega)]; simp
    have g : (l.map bv)[i]? = some (bv (l.getD i 0)) := getbv (by omega)
    have hx := (l.getD i 0).toNat_lt
    have w1 : IntKind.u8.wrap ((((l.getD i 0).toNat / 16 : Nat) : Int) + 1) = (((l.getD i 0).toNat / 16 + 1 : Nat) : Int) := by rw [IntKind.wrap_u8]; omega
    have w2 : IntKind.u8.wrap ((((l.getD i 0).toNat % 16 : Nat) : Int) + 1) = (((l.getD i 0).toNat % 16 + 1 : Nat) : Int) := by rw [IntKind.wrap_u8]; omega
    simp only [ix, ↓o_nil, ↓o_field, ↓o_add, ↓o_sub, ↓o_mul, ↓o_lss, ↓o_leq, ↓o_gtr, ↓o_geq, ↓o_not, ↓o_pick, ↓o_eqInt, ↓o_neInt, ↓o_eqBool, ↓o_neBool, ↓o_eqPtr, ↓o_nePtr, ↓o_eqPtr', ↓o_eqSl, ↓o_neSl, ↓o_eqStr, ↓o_neStr, ↓o_len, ↓o_lenS, ↓o_min, ↓o_max, ↓o_extract, ↓o_convInt, ↓cd_true, ↓cd_false, ↓gate_tt, ↓gate_ff, ↓gate_tf, ↓gate_ft, ↓gate_undef, ↓o_bind, ↓stay_v, ↓pop_cons, ↓fin_nil, Option.isNone_none, Option.isNone_some, Bool.not_true, Bool.not_false, Nat.zero_add, decide_true, decide_false, if_true, if_false, Bool.false_eq_true, ↓reduceIte]
    refine ld_in (b := b1) h g ?_
    rw [o_shr4]
    try simp only [↓o_nil, ↓o_field, ↓o_add, ↓o_sub, ↓o_mul, ↓o_lss, ↓o_leq, ↓o_gtr, ↓o_geq, ↓o_not, ↓o_pick, ↓o_eqInt, ↓o_neInt, ↓o_eqBool, ↓o_neBool, ↓o_eqPtr, ↓o_nePtr, ↓o_eqPtr', ↓o_eqSl, ↓o_neSl, ↓o_eqStr, ↓o_neStr, ↓o_len, ↓o_lenS, ↓o_min, ↓o_max, ↓o_extract, ↓o_convInt, ↓cd_true, ↓cd_false, ↓gate_tt, ↓gate_ff, ↓gate_tf, ↓gate_ft, ↓gate_undef, ↓o_bind, ↓stay_v, ↓pop_cons, ↓fin_nil, Option.isNone_none, Option.isNone_some, Bool.not_true, Bool.not_false, Nat.zero_add, decide_true, decide_false, if_true, if_false, Bool.false_eq_true, ↓reduceIte]
    refine ld_in (b := b1) h g ?_
    rw [o_shr4, o_add, w1, o_digS (by omega)]
    try simp only [↓o_nil, ↓o_field, ↓o_add, ↓o_sub, ↓o_mul, ↓o_lss, ↓o_leq, ↓o_gtr, ↓o_geq, ↓o_not, ↓o_pick, ↓o_eqInt, ↓o_neInt, ↓o_eqBool, ↓o_neBool, ↓o_eqPtr, ↓o_nePtr, ↓o_eqPtr', ↓o_eqSl, ↓o_neSl, ↓o_eqStr, ↓o_neStr, ↓o_len, ↓o_lenS, ↓o_min, ↓o_max, ↓o_extract, ↓o_convInt, ↓cd_true, ↓cd_false, ↓gate_tt, ↓gate_ff, ↓gate_tf, ↓gate_ft, ↓gate_undef, ↓o_bind, ↓stay_v, ↓pop_cons, ↓fin_nil, Option.isNone_none, Option.isNone_some, Bool.not_true, Bool.not_false, Nat.zero_add, decide_true, decide_false, if_true, if_false, Bool.false_eq_true, ↓reduceIte]
    refine ld_in (b := b1) h g ?_
    rw [o_and15]
    try simp only [↓o_nil, ↓o_field, ↓o_add, ↓o_sub, ↓o_mul, ↓o_lss, ↓o_leq, ↓o_gtr, ↓o_geq, ↓o_not, ↓o_pick, ↓o_eqInt, ↓o_neInt, ↓o_eqBool, ↓o_neBool, ↓o_eqPtr, ↓o_nePtr, ↓o_eqPtr', ↓o_eqSl, ↓o_neSl, ↓o_eqStr, ↓o_neStr, ↓o_len, ↓o_lenS, ↓o_min, ↓o_max, ↓o_extract, ↓o_convInt, ↓cd_true, ↓cd_false, ↓gate_tt, ↓gate_ff, ↓gate_tf, ↓gate_ft, ↓gate_undef, ↓o_bind, ↓stay_v, ↓pop_cons, ↓fin_nil, Option.isNone_none, Option.isNone_some, Bool.not_true, Bool.not_false, Nat.zero_add, decide_true, decide_false, if_true, if_false, Bool.false_eq_true, ↓reduceIte]
    refine ld_in (b := b1) h g ?_
    rw [o_and15, o_add, w2, o_digS (by omega), o_catT (by simp), o_catT (by rw [hex_length, List.length_take]; simp; omega)]
    try rw [o_add]
    rw [i64_of (by omega) (by omega)]
    refine hag (32 - (i + 1)) _ _ (by omega) ⟨i + 1, ?_, rfl, by omega, h⟩
    rw [hex_take (by omega)]
    rfl
  · have hi2 : i = 32 := by omega
    subst hi2
    rw [List.take_of_length_le (by omega)]
    exact k _ h.drop
theorem hex_get : ∀ (l : List UInt8) (i : Nat), i < l.length → (hex l).getD (2 * i) 0 = dig ((l.getD i 0).toNat / 16) ∧ (hex l).getD (2 * i + 1) 0 = dig ((l.getD i 0).toNat % 16)
  | [], i, h => by simp at h
  | x :: l, 0, h => by
    constructor <;> rfl
  | x :: l, i + 1, h => by
    have := hex_get l i (by simpa using h)
    have e : hex (x :: l) = dig (x.toNat / 16) :: dig (x.toNat % 16) :: hex l := rfl
    rw [e, show 2 * (i + 1) = 2 * i + 1 + 1 by omega]
    simpa using this
theorem unhex_hex {l : List UInt8} (hl : l.length = 32) : unhex (hex l) = (l, 0) := by
  have hlen : (hex l).length = 64 := by rw [hex_length, hl]
  have hg : ∀ i, i < 64 → val ((hex l).getD i 0) < 16 := fun i hi => by
    obtain ⟨h1, h2⟩ := hex_get l (i / 2) (by omega)
    have hx := (l.getD (i / 2) 0).toNat_lt
    by_cases h3 : i % 2 = 0
    · rw [show i = 2 * (i / 2) by omega, h1, val_dig _ (by omega)]; omega
    · rw [show i = 2 * (i / 2) + 1 by omega, h2, val_dig _ (by omega)]; omega
  rw [unhex_good hlen hg]
  congr 1
  apply List.ext_getElem
  · rw [pairs_length, hl]
  · intro i h1 h2
    obtain ⟨h3, h4⟩ := hex_get l i h2
    have hx := (l.getD i 0).toNat_lt
    have e : (pairs (hex l) 32)[i] = pair (hex l) i := by simp [pairs]
    rw [e]
    unfold pair
    rw [h3, h4, val_dig _ (by omega), val_dig _ (by omega)]
    have e2 : l.getD i 0 = l[i] := by simp [List.getD_eq_getElem?_getD, h2]
    rw [e2, show l[i].toNat / 16 * 16 + l[i].toNat % 16 = l[i].toNat by omega]
    simp
end Go.Proofs.Ytjmgkfpjaelilaa
