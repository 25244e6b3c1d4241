/-
  Deeds; whether two disks are the same; cuts.
-/
import Derived.Test.YteplajobjlehlaaBlkD
set_option linter.all false
set_option maxRecDepth 10000
namespace Go.Proofs.Yteplajobjlehlaa
open Go Hold
variable {E : World0} {w : World} {H R : HP} {K : Value → World → Prop}

theorem Rds.own {H : HP} {v : Value} {e sz n : Nat} {xs : List Value} {R : HP} [s : OwnS H v e sz n xs R] : Rds H v n xs := fun E w h => osl_rd (h.perm s.eq)
/-- A deed: a number, a length, a byte. -/
structure Dd where
  n : Int
  len : Int
  b : UInt8
  deriving Inhabited
def Dd.val (x : Dd) : Value := .agg #[.int .i64 x.n, .int .i64 x.len, bv x.b]
def Dd.size (x : Dd) : Nat := if x.len < 0 ∨ 300 < x.len then 256 else x.len.toNat
def Dd.bytes (x : Dd) : List UInt8 := List.replicate x.size x.b
theorem Dd.size_le (x : Dd) : x.size ≤ 300 := by unfold Dd.size; split <;> omega
theorem Dd.bytes_length (x : Dd) : x.bytes.length = x.size := by simp [Dd.bytes]
theorem Dd.bytes_map (x : Dd) : x.bytes.map bv = List.replicate x.size (bv x.b) := by simp [Dd.bytes]

theorem bytes_spec (h : sat E w H) (x : Dd) (k : ∀ v w', sat E w' (osl 5 1 v x.bytes.length (x.bytes.map bv) * H) → K v w') : Calls prog 15 #[x.val] w (Ret K) := by
  refine c15 ?_
  unfold B15
  refine box_sl h fun b w h => ?_
  have h : sat E w (pts b (.cells [.int .i64 x.n, .int .i64 x.len, bv x.b].toArray 24 (0, 0)) * H) := h
  simp only [↓o_nil, ↓o_field, ↓o_add, ↓o_sub, ↓o_mul, ↓o_lss, ↓o_leq, ↓o_gtr, ↓o_geq, ↓o_not, ↓o_pick, ↓o_eqInt, ↓o_neInt, ↓o_eqBool, ↓o_neBool, ↓o_eqPtr, ↓o_nePtr, ↓o_eqPtr', ↓o_eqSl, ↓o_neSl, ↓o_eqStr, ↓o_neStr, ↓o_len, ↓o_lenS, ↓o_min, ↓o_max, ↓o_extract, ↓o_convInt, ↓cd_true, ↓cd_false, ↓gate_tt, ↓gate_ff, ↓gate_tf, ↓gate_ft, ↓gate_undef, ↓pop_cons, ↓fin_nil, Option.isNone_none, Option.isNone_some, Bool.not_true, Bool.not_false, Nat.zero_add, decide_true, decide_false, if_true, if_false, Bool.false_eq_true, ↓reduceIte]
  refine ld_at h ?_
  simp only [↓o_nil, ↓o_field, ↓o_add, ↓o_sub, ↓o_mul, ↓o_lss, ↓o_leq, ↓o_gtr, ↓o_geq, ↓o_not, ↓o_pick, ↓o_eqInt, ↓o_neInt, ↓o_eqBool, ↓o_neBool, ↓o_eqPtr, ↓o_nePtr, ↓o_eqPtr', ↓o_eqSl, ↓o_neSl, ↓o_eqStr, ↓o_neStr, ↓o_len, ↓o_lenS, ↓o_min, ↓o_max, ↓o_extract, ↓o_convInt, ↓cd_true, ↓cd_false, ↓gate_tt, ↓gate_ff, ↓gate_tf, ↓gate_ft, ↓gate_undef, ↓pop_cons, ↓fin_nil, Option.isNone_none, Option.isNone_some, Bool.not_true, Bool.not_false, Nat.zero_add, decide_true, decide_false, if_true, if_false, Bool.false_eq_true, ↓reduceIte]
  refine jn_cut (fun σ w => σ = [.int .i64 x.size] ∧ sat E w (pts b (.cells [.int .i64 x.n, .int .i64 x.len, bv x.b].toArray 24 (0, 0)) * H)) ?_ ?_
  · intro kk hk
    by_cases h1 : x.len < 0
    · simp only [↓o_nil, ↓o_field, ↓o_add, ↓o_sub, ↓o_mul, ↓o_lss, ↓o_leq, ↓o_gtr, ↓o_geq, ↓o_not, ↓o_pick, ↓o_eqInt, ↓o_neInt, ↓o_eqBool, ↓o_neBool, ↓o_eqPtr, ↓o_nePtr, ↓o_eqPtr', ↓o_eqSl, ↓o_neSl, ↓o_eqStr, ↓o_neStr, ↓o_len, ↓o_lenS, ↓o_min, ↓o_max, ↓o_extract, ↓o_convInt, ↓cd_true, ↓cd_false, ↓gate_tt, ↓gate_ff, ↓gate_tf, ↓gate_ft, ↓gate_undef, ↓pop_cons, ↓fin_nil, Option.isNone_none, Option.isNone_some, Bool.not_true, Bool.not_false, Nat.zero_add, decide_true, decide_false, if_true, if_false, Bool.false_eq_true, ↓reduceIte, h1]
      exact hk _ _ ⟨by simp [Dd.size, h1], h⟩
    · simp only [↓o_nil, ↓o_field, ↓o_add, ↓o_sub, ↓o_mul, ↓o_lss, ↓o_leq, ↓o_gtr, ↓o_geq, ↓o_not, ↓o_pick, ↓o_eqInt, ↓o_neInt, ↓o_eqBool, ↓o_neBool, ↓o_eqPtr, ↓o_nePtr, ↓o_eqPtr', ↓o_eqSl, ↓o_neSl, ↓o_eqStr, ↓o_neStr, ↓o_len, ↓o_lenS, ↓o_min, ↓o_max, ↓o_extract, ↓o_convInt, ↓cd_true, ↓cd_false, ↓gate_tt, ↓gate_ff, ↓gate_tf, ↓gate_ft, ↓gate_undef, ↓pop_cons, ↓fin_nil, Option.isNone_none, Option.isNone_some, Bool.not_true, Bool.not_false, Nat.zero_add, decide_true, decide_false, if_true, if_false, Bool.false_eq_true, ↓reduceIte, h1]
      by_cases h2 : 300 < x.len
      · simp only [↓o_nil, ↓o_field, ↓o_add, ↓o_sub, ↓o_mul, ↓o_lss, ↓o_leq, ↓o_gtr, ↓o_geq, ↓o_not, ↓o_pick, ↓o_eqInt, ↓o_neInt, ↓o_eqBool, ↓o_neBool, ↓o_eqPtr, ↓o_nePtr, ↓o_eqPtr', ↓o_eqSl, ↓o_neSl, ↓o_eqStr, ↓o_neStr, ↓o_len, ↓o_lenS, ↓o_min, ↓o_max, ↓o_extract, ↓o_convInt, ↓cd_true, ↓cd_false, ↓gate_tt, ↓gate_ff, ↓gate_tf, ↓gate_ft, ↓gate_undef, ↓pop_cons, ↓fin_nil, Option.isNone_none, Option.isNone_some, Bool.not_true, Bool.not_false, Nat.zero_add, decide_true, decide_false, if_true, if_false, Bool.false_eq_true, ↓reduceIte, h2]
        exact hk _ _ ⟨by simp [Dd.size, h2], h⟩
      · simp only [↓o_nil, ↓o_field, ↓o_add, ↓o_sub, ↓o_mul, ↓o_lss, ↓o_leq, ↓o_gtr, ↓o_geq, ↓o_not, ↓o_pick, ↓o_eqInt, ↓o_neInt, ↓o_eqBool, ↓o_neBool, ↓o_eqPtr, ↓o_nePtr, ↓o_eqPtr', ↓o_eqSl, ↓o_neSl, ↓o_eqStr, ↓o_neStr, ↓o_len, ↓o_lenS, ↓o_min, ↓o_max, ↓o_extract, ↓o_convInt, ↓cd_true, ↓cd_false, ↓gate_tt, ↓gate_ff, ↓gate_tf, ↓gate_ft, ↓gate_undef, ↓pop_cons, ↓fin_nil, Option.isNone_none, Option.isNone_some, Bool.not_true, Bool.not_false, Nat.zero_add, decide_true, decide_false, if_true, if_false, Bool.false_eq_true, ↓reduceIte, h2]
        refine hk _ _ ⟨?_, h⟩
        simp only [Dd.size, h1, h2, or_self, if_false]
        congr 2; omega
  · rintro σ w ⟨rfl, h⟩
    have hs := x.size_le
    simp only [↓o_nil, ↓o_field, ↓o_add, ↓o_sub, ↓o_mul, ↓o_lss, ↓o_leq, ↓o_gtr, ↓o_geq, ↓o_not, ↓o_pick, ↓o_eqInt, ↓o_neInt, ↓o_eqBool, ↓o_neBool, ↓o_eqPtr, ↓o_nePtr, ↓o_eqPtr', ↓o_eqSl, ↓o_neSl, ↓o_eqStr, ↓o_neStr, ↓o_len, ↓o_lenS, ↓o_min, ↓o_max, ↓o_extract, ↓o_convInt, ↓cd_true, ↓cd_false, ↓gate_tt, ↓gate_ff, ↓gate_tf, ↓gate_ft, ↓gate_undef, ↓pop_cons, ↓fin_nil, Option.isNone_none, Option.isNone_some, Bool.not_true, Bool.not_false, Nat.zero_add, decide_true, decide_false, if_true, if_false, Bool.false_eq_true, ↓reduceIte]
    refine make_sl h rfl (by omega) (by omega) (by omega) (by omega) fun b2 w h => ?_
    simp only [Int.toNat_natCast] at h ⊢
    refine lp_nat (fun m σ w => ∃ i : Nat, σ = [.int .i64 i] ∧ m = x.size - i ∧ i ≤ x.size ∧
      sat E w (pts b2 (.cells (List.replicate i (bv x.b) ++ List.replicate (x.size - i) (Value.int .u8 0)).toArray 5 (0, 0)) * (pts b (.cells [.int .i64 x.n, .int .i64 x.len, bv x.b].toArray 24 (0, 0)) * H))) x.size ⟨0, rfl, rfl, by omega, by simpa using h⟩ ?_
    rintro m σ w again ⟨i, rfl, rfl, hi, h⟩ hag
    simp only [↓o_nil, ↓o_field, ↓o_add, ↓o_sub, ↓o_mul, ↓o_lss, ↓o_leq, ↓o_gtr, ↓o_geq, ↓o_not, ↓o_pick, ↓o_eqInt, ↓o_neInt, ↓o_eqBool, ↓o_neBool, ↓o_eqPtr, ↓o_nePtr, ↓o_eqPtr', ↓o_eqSl, ↓o_neSl, ↓o_eqStr, ↓o_neStr, ↓o_len, ↓o_lenS, ↓o_min, ↓o_max, ↓o_extract, ↓o_convInt, ↓cd_true, ↓cd_false, ↓gate_tt, ↓gate_ff, ↓gate_tf, ↓gate_ft, ↓gate_undef, ↓pop_cons, ↓fin_nil, Option.isNone_none, Option.isNone_some, Bool.not_true, Bool.not_false, Nat.zero_add, decide_true, decide_false, if_true, if_false, Bool.false_eq_true, ↓reduceIte]
    refine cd_dec (fun hlt => ?_) (fun hge => ?_)
    · have hlt : i < x.size := by omega
      refine ld_at h ?_
      rw [o_index (by omega) (by omega)]
      simp only [Int.toNat_natCast, Nat.mul_one, ↓o_nil, ↓o_field, ↓o_add, ↓o_sub, ↓o_mul, ↓o_lss, ↓o_leq, ↓o_gtr, ↓o_geq, ↓o_not, ↓o_pick, ↓o_eqInt, ↓o_neInt, ↓o_eqBool, ↓o_neBool, ↓o_eqPtr, ↓o_nePtr, ↓o_eqPtr', ↓o_eqSl, ↓o_neSl, ↓o_eqStr, ↓o_neStr, ↓o_len, ↓o_lenS, ↓o_min, ↓o_max, ↓o_extract, ↓o_convInt, ↓cd_true, ↓cd_false, ↓gate_tt, ↓gate_ff, ↓gate_tf, ↓gate_ft, ↓gate_undef, ↓pop_cons, ↓fin_nil, Option.isNone_none, Option.isNone_some, Bool.not_true, Bool.not_false, Nat.zero_add, decide_true, decide_false, if_true, if_false, Bool.false_eq_true, ↓reduceIte]
      refine store_sl h rfl (by simp; omega) fun w h => ?_
      rw [i64_of (by omega) (by omega)]
      refine hag _ _ _ (by omega) ⟨i + 1, rfl, rfl, by omega, ?_⟩
      rw [set_fill (by simp) hlt, ← List.replicate_succ'] at h
      exact h
    · have : i = x.size := by omega
      subst this
      simp only [Nat.sub_self, List.replicate_zero, List.append_nil] at h
      refine k _ _ ?_
      rw [x.bytes_length, x.bytes_map]
      exact osl_of (n := x.size) (sz := 1) (h.perm (star_left_comm _ _ _)).drop (by simp) (by omega)

/-! ### Same -/
theorem Equal_spec {v u : Value} {l m : List UInt8} (hv : RdS (hp w) v l.length (l.map bv)) (hu : RdS (hp w) u m.length (m.map bv)) (k : K (.bool (decide (l = m))) w) : Calls prog 48 #[v, u] w (Ret K) := by
  refine c48 ?_
  unfold B48
  refine conv_bs hv ?_
  refine conv_bs hu ?_
  simp only [↓o_nil, ↓o_field, ↓o_add, ↓o_sub, ↓o_mul, ↓o_lss, ↓o_leq, ↓o_gtr, ↓o_geq, ↓o_not, ↓o_pick, ↓o_eqInt, ↓o_neInt, ↓o_eqBool, ↓o_neBool, ↓o_eqPtr, ↓o_nePtr, ↓o_eqPtr', ↓o_eqSl, ↓o_neSl, ↓o_eqStr, ↓o_neStr, ↓o_len, ↓o_lenS, ↓o_min, ↓o_max, ↓o_extract, ↓o_convInt, ↓cd_true, ↓cd_false, ↓gate_tt, ↓gate_ff, ↓gate_tf, ↓gate_ft, ↓gate_undef, ↓pop_cons, ↓fin_nil, Option.isNone_none, Option.isNone_some, Bool.not_true, Bool.not_false, Nat.zero_add, decide_true, decide_false, if_true, if_false, Bool.false_eq_true, ↓reduceIte]
  have e : ((⟨l.toArray⟩ : ByteArray).toList == (⟨m.toArray⟩ : ByteArray).toList) = decide (l = m) := by
    rw [ByteArray.toList_eq, ByteArray.toList_eq]
    simp [Bool.beq_eq_decide_eq]
  rw [e]
  exact k
theorem EqualFunc_spec (h : sat E w H) {v u : Value} {L M : List (List UInt8)} (hv : Rdd H v L) (hu : Rdd H u M) (hL : L.length ≤ 1024) (k : ∀ w', sat E w' H → K (.bool (decide (L = M))) w') :
    Calls prog 47 #[v, u, .func (.func 48) #[] #[]] w (Ret K) := by
  obtain ⟨vs, hv, hvl, hva⟩ := hv
  obtain ⟨us, hu, hul, hua⟩ := hu
  obtain ⟨a, c, rfl, hc, hv, _⟩ := hv.shape h
  obtain ⟨a', c', rfl, hc', hu, _⟩ := hu.shape h
  refine c47 ?_
  unfold B47
  simp only [↓o_nil, ↓o_field, ↓o_add, ↓o_sub, ↓o_mul, ↓o_lss, ↓o_leq, ↓o_gtr, ↓o_geq, ↓o_not, ↓o_pick, ↓o_eqInt, ↓o_neInt, ↓o_eqBool, ↓o_neBool, ↓o_eqPtr, ↓o_nePtr, ↓o_eqPtr', ↓o_eqSl, ↓o_neSl, ↓o_eqStr, ↓o_neStr, ↓o_len, ↓o_lenS, ↓o_min, ↓o_max, ↓o_extract, ↓o_convInt, ↓cd_true, ↓cd_false, ↓gate_tt, ↓gate_ff, ↓gate_tf, ↓gate_ft, ↓gate_undef, ↓pop_cons, ↓fin_nil, Option.isNone_none, Option.isNone_some, Bool.not_true, Bool.not_false, Nat.zero_add, decide_true, decide_false, if_true, if_false, Bool.false_eq_true, ↓reduceIte]
  refine cd_dec' (fun he => ?_) (fun hne => ?_)
  · have he : L.length = M.length := by omega
    refine lp_nat (fun n σ w => ∃ i : Nat, σ = [.int .i64 i] ∧ n = L.length - i ∧ i ≤ L.length ∧ L.take i = M.take i ∧ sat E w H) L.length ⟨0, rfl, rfl, by omega, rfl, h⟩ ?_
    rintro n σ w again ⟨i, rfl, rfl, hi, heq, h⟩ hag
    simp only [↓o_nil, ↓o_field, ↓o_add, ↓o_sub, ↓o_mul, ↓o_lss, ↓o_leq, ↓o_gtr, ↓o_geq, ↓o_not, ↓o_pick, ↓o_eqInt, ↓o_neInt, ↓o_eqBool, ↓o_neBool, ↓o_eqPtr, ↓o_nePtr, ↓o_eqPtr', ↓o_eqSl, ↓o_neSl, ↓o_eqStr, ↓o_neStr, ↓o_len, ↓o_lenS, ↓o_min, ↓o_max, ↓o_extract, ↓o_convInt, ↓cd_true, ↓cd_false, ↓gate_tt, ↓gate_ff, ↓gate_tf, ↓gate_ft, ↓gate_undef, ↓pop_cons, ↓fin_nil, Option.isNone_none, Option.isNone_some, Bool.not_true, Bool.not_false, Nat.zero_add, decide_true, decide_false, if_true, if_false, Bool.false_eq_true, ↓reduceIte]
    refine cd_dec (fun hlt => ?_) (fun hge => ?_)
    · have hlt : i < L.length := by omega
      obtain ⟨b1, o1, rfl, hb1⟩ := win_cell (hv.win h) (j := i) (by omega)
      obtain ⟨b2, o2, rfl, hb2⟩ := win_cell (hu.win h) (j := i) (by omega)
      rw [o_index (by omega) (by omega)]
      simp only [Int.toNat_natCast, Nat.mul_one]
      refine ld_cell hb1 ?_
      rw [o_index (by omega) (by omega)]
      simp only [Int.toNat_natCast, Nat.mul_one]
      refine ld_cell hb2 ?_
      refine oCall_body Try.func48 (by kernel_rfl) (by kernel_rfl) ?_
      refine Equal_spec (hva i vs[i] L[i] (List.getElem?_eq_getElem (by omega)) (List.getElem?_eq_getElem hlt) E w h) (hua i us[i] M[i] (List.getElem?_eq_getElem (by omega)) (List.getElem?_eq_getElem (by omega)) E w h) ?_
      simp only [↓o_nil, ↓o_field, ↓o_add, ↓o_sub, ↓o_mul, ↓o_lss, ↓o_leq, ↓o_gtr, ↓o_geq, ↓o_not, ↓o_pick, ↓o_eqInt, ↓o_neInt, ↓o_eqBool, ↓o_neBool, ↓o_eqPtr, ↓o_nePtr, ↓o_eqPtr', ↓o_eqSl, ↓o_neSl, ↓o_eqStr, ↓o_neStr, ↓o_len, ↓o_lenS, ↓o_min, ↓o_max, ↓o_extract, ↓o_convInt, ↓cd_true, ↓cd_false, ↓gate_tt, ↓gate_ff, ↓gate_tf, ↓gate_ft, ↓gate_undef, ↓pop_cons, ↓fin_nil, Option.isNone_none, Option.isNone_some, Bool.not_true, Bool.not_false, Nat.zero_add, decide_true, decide_false, if_true, if_false, Bool.false_eq_true, ↓reduceIte]
      refine cd_dec' (fun he2 => ?_) (fun hne => ?_)
      · rw [i64_of (by omega) (by omega)]
        refine hag _ _ _ (by omega) ⟨i + 1, rfl, rfl, by omega, ?_, h⟩
        rw [List.take_succ_eq_append_getElem hlt, List.take_succ_eq_append_getElem (by omega), heq, he2]
      · have : L ≠ M := by rintro rfl; exact hne rfl
        have := k w h
        simpa [*] using this
    · have : L = M := by
        have hi2 : i = L.length := by omega
        rw [hi2, List.take_length, he, List.take_length] at heq
        exact heq
      subst this
      simpa using k w h
  · have : L ≠ M := by rintro rfl; exact hne rfl
    simpa [this] using k w h

/-- The blocks of a disk, read. -/
theorem rdd_of (h : sat E w H) {lv : Value} {vs : List Value} {L : List (List UInt8)} {R1 R2 : HP} [s1 : OwnS H lv 32 1 L.length vs R1] [s2 : Split R1 (pers (immAll vs L)) R2] : Rdd H lv L :=
  ⟨vs, fun E w hs => osl_rd (hs.perm s1.eq), (((h.perm s1.eq).drop.split (pers (immAll vs L))).pers_get).1, fun i u l h1 h2 E w hs => (((hs.perm s1.eq).drop.split (pers (immAll vs L))).pers_get).2 i u l h1 h2⟩

/-- A disk, shut again. -/
theorem dsk_shut (d : Nat) (L : List (List UInt8)) (W : List (Int × List UInt8)) {lv wv : Value} {vs : List Value} {ws : List (Int × Value)} {R1 R2 R3 R4 R5 : HP} (e : ws.map (·.1) = W.map (·.1)) (h : sat E w H)
    [s1 : Own H d (.cells [lv, wv, .int .i64 W.length].toArray 79 (0, 0)) R1] [s2 : OwnS R1 lv 32 1 L.length vs R2] [s3 : OwnS R2 wv 81 2 W.length (wcells ws) R3]
    [s4 : Split R3 (pers (immAll vs L)) R4] [s5 : Split R4 (pers (immAll (ws.map (·.2)) (W.map (·.2)))) R5] : sat E w (dsk d L W * R5) :=
  sat_dsk.2 ⟨lv, vs, wv, ws, e, by rw [← s5.eq, ← s4.eq, ← s3.eq, ← s2.eq, ← s1.eq]; exact h⟩

theorem dsk_shut' (d : Nat) (L : List (List UInt8)) (W : List (Int × List UInt8)) {lv wv : Value} {vs : List Value} {ws : List (Int × Value)} {R1 R2 R3 R4 R5 : HP} {m : Nat} (hm : m = L.length) (e : ws.map (·.1) = W.map (·.1)) (h : sat E w H)
    [s1 : Own H d (.cells [lv, wv, .int .i64 W.length].toArray 79 (0, 0)) R1] [s2 : OwnS R1 lv 32 1 m vs R2] [s3 : OwnS R2 wv 81 2 W.length (wcells ws) R3]
    [s4 : Split R3 (pers (immAll vs L)) R4] [s5 : Split R4 (pers (immAll (ws.map (·.2)) (W.map (·.2)))) R5] : sat E w (dsk d L W * R5) := by
  subst hm
  exact dsk_shut d L W e h

theorem Same_nil {u : Value} {p : Option Addr} (k : K (.bool p.isNone) w) : Calls prog 30 #[.pointer none, .pointer p] w (Ret K) := by
  refine c30 ?_
  unfold B30
  simp only [↓o_nil, ↓o_field, ↓o_add, ↓o_sub, ↓o_mul, ↓o_lss, ↓o_leq, ↓o_gtr, ↓o_geq, ↓o_not, ↓o_pick, ↓o_eqInt, ↓o_neInt, ↓o_eqBool, ↓o_neBool, ↓o_eqPtr, ↓o_nePtr, ↓o_eqPtr', ↓o_eqSl, ↓o_neSl, ↓o_eqStr, ↓o_neStr, ↓o_len, ↓o_lenS, ↓o_min, ↓o_max, ↓o_extract, ↓o_convInt, ↓cd_true, ↓cd_false, ↓gate_tt, ↓gate_ff, ↓gate_tf, ↓gate_ft, ↓gate_undef, ↓pop_cons, ↓fin_nil, Option.isNone_none, Option.isNone_some, Bool.not_true, Bool.not_false, Nat.zero_add, decide_true, decide_false, if_true, if_false, Bool.false_eq_true, ↓reduceIte]
  exact k
theorem Same_spec {H1 : HP} (h : sat E w H) {a b : Nat} {L M : List (List UInt8)} {V W : List (Int × List UInt8)} [s1 : DskS H a L V H1] [s2 : DskS H1 b M W R] (hL : L.length ≤ 1024)
    (k : ∀ w', sat E w' H → K (.bool (decide (L = M))) w') : Calls prog 30 #[.pointer (some ⟨a, 0, none⟩), .pointer (some ⟨b, 0, none⟩)] w (Ret K) := by
  have h0 := h
  obtain ⟨lv, vs, wv, ws, e, hd⟩ := sat_dsk.1 (h.dsks a)
  obtain ⟨lv', vs', wv', ws', e', hd'⟩ := sat_dsk.1 (hd.dsks b)
  refine c30 ?_
  unfold B30
  simp only [↓o_nil, ↓o_field, ↓o_add, ↓o_sub, ↓o_mul, ↓o_lss, ↓o_leq, ↓o_gtr, ↓o_geq, ↓o_not, ↓o_pick, ↓o_eqInt, ↓o_neInt, ↓o_eqBool, ↓o_neBool, ↓o_eqPtr, ↓o_nePtr, ↓o_eqPtr', ↓o_eqSl, ↓o_neSl, ↓o_eqStr, ↓o_neStr, ↓o_len, ↓o_lenS, ↓o_min, ↓o_max, ↓o_extract, ↓o_convInt, ↓cd_true, ↓cd_false, ↓gate_tt, ↓gate_ff, ↓gate_tf, ↓gate_ft, ↓gate_undef, ↓pop_cons, ↓fin_nil, Option.isNone_none, Option.isNone_some, Bool.not_true, Bool.not_false, Nat.zero_add, decide_true, decide_false, if_true, if_false, Bool.false_eq_true, ↓reduceIte]
  refine dr_sl hd' fun w hd' _ => ?_
  refine ld_at hd' ?_
  refine ld_at hd' ?_
  refine EqualFunc_spec hd' (rdd_of hd') (rdd_of hd') hL fun w h => ?_
  have h1 := dsk_shut b M W e' h
  have h2 := dsk_shut a L V e h1
  exact k w (h2.perm (by rw [s1.eq, s2.eq]))
end Go.Proofs.Yteplajobjlehlaa
