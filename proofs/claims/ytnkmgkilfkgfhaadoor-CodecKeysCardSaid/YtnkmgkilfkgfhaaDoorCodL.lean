/-
  Columns of rows: the code's and the reference's.
-/
import Derived.Test.YtnkmgkilfkgfhaaDoorCodJ
import Derived.Test.YtnkmgkilfkgfhaaDoorCodK
set_option linter.all false
set_option maxRecDepth 10000
namespace Go.Proofs.YtnkmgkilfkgfhaaDoor
open Go Hold
variable {E : World0} {w : World} {H R : HP} {K : Value → World → Prop}
/-- Texts handed back: they are owned. -/
def backT (K : Value → World → Prop) (E : World0) (H : HP) (x : List (List UInt8) × Int) : Prop := ∀ v w, sat E w (osl 9 1 v x.1.length (x.1.map tv) * H) → K (.tuple #[v, .int .i64 x.2]) w
theorem backT_nil (h : sat E w H) {e : Int} (k : backT K E H ([], e)) : K (.tuple #[.slice none 0 0, .int .i64 e]) w := k _ _ (osl_nil h 9 1)
theorem rds_cutl {H : HP} {a : Option Addr} {n c lo : Nat} {l : List UInt8} (hb : Rds H (.slice a n c) n (l.map bv)) (hl : l.length = n) (h1 : lo ≤ n) :
    Rds H (.slice (cutA a c lo 1) (n - lo) (c - lo)) (n - lo) ((l.drop lo).map bv) := fun E w hs => by
  have := (hb E w hs).cutl (by simpa using hl) h1
  rwa [← List.map_drop] at this
theorem columns_nil : columns [] = ([], 3) := rfl
theorem columns_long {b : List UInt8} (h : 72 < b.length) : columns b = ([], 6) := by unfold columns; rw [if_pos h]
theorem columns_many {n : UInt8} {r : List UInt8} (h : ¬ 72 < (n :: r).length) (h2 : 8 < n.toNat) : columns (n :: r) = ([], 3) := by unfold columns; rw [if_neg h]; simp only; rw [if_pos h2]
theorem columns_go {n : UInt8} {r : List UInt8} (h : ¬ 72 < (n :: r).length) (h2 : ¬ 8 < n.toNat) : columns (n :: r) = match colsGo n.toNat r with | some cs => (cs, 0) | none => ([], 3) := by unfold columns; rw [if_neg h]; simp only; rw [if_neg h2]; cases colsGo n.toNat r <;> rfl
theorem colsGo_step {m : Nat} {k : UInt8} {b : List UInt8} (h : ¬ (70 < k.toNat ∨ b.length < k.toNat)) : colsGo (m + 1) (k :: b) = (colsGo m (b.drop k.toNat)).map (b.take k.toNat :: ·) := by
  rw [colsGo, if_neg h]
theorem colsGo_stop {m : Nat} {k : UInt8} {b : List UInt8} (h : 70 < k.toNat ∨ b.length < k.toNat) : colsGo (m + 1) (k :: b) = none := by
  rw [colsGo, if_pos h]
theorem text_fill {ds : List (List UInt8)} {n i : Nat} {t : List UInt8} (hd : ds.length = i) (h : i < n) : (ds.map tv ++ List.replicate (n - i) (tv [])).set i (tv t) = (ds ++ [t]).map tv ++ List.replicate (n - (i + 1)) (tv []) := by
  rw [set_fill (by simpa using hd) h]; simp
theorem Columns_spec (h : sat E w H) {v : Value} {b : List UInt8} (hb : Rds H v b.length (b.map bv)) (hbl : b.length ≤ 9223372036854775000) (k : backT K E H (columns b)) : Calls prog 22 #[v] w (Ret K) := by
  obtain ⟨a, c, rfl, hc, hb, hbn⟩ := hb.shape h
  refine c22 ?_
  unfold B22
  rw [o_len, o_gtr]
  by_cases h1 : 72 < b.length
  · have f1 : (72 : Int) < b.length := by omega
    simp only [f1, ↓o_nil, ↓o_field, ↓o_add, ↓o_sub, ↓o_mul, ↓o_lss, ↓o_leq, ↓o_gtr, ↓o_geq, ↓o_not, ↓o_pick, ↓o_eqInt, ↓o_neInt, ↓o_eqBool, ↓o_neBool, ↓o_eqPtr, ↓o_nePtr, ↓o_eqPtr', ↓o_eqSl, ↓o_neSl, ↓o_eqStr, ↓o_neStr, ↓o_len, ↓o_lenS, ↓o_min, ↓o_max, ↓o_extract, ↓o_convInt, ↓cd_true, ↓cd_false, ↓gate_tt, ↓gate_ff, ↓gate_tf, ↓gate_ft, ↓gate_undef, ↓o_bind, ↓stay_v, ↓pop_cons, ↓fin_nil, Option.isNone_none, Option.isNone_some, Bool.not_true, Bool.not_false, Nat.zero_add, decide_true, decide_false, if_true, if_false, Bool.false_eq_true, ↓reduceIte]
    rw [columns_long h1] at k
    exact backT_nil h k
  have f1 : ¬ (72 : Int) < b.length := by omega
  simp only [f1, ↓o_nil, ↓o_field, ↓o_add, ↓o_sub, ↓o_mul, ↓o_lss, ↓o_leq, ↓o_gtr, ↓o_geq, ↓o_not, ↓o_pick, ↓o_eqInt, ↓o_neInt, ↓o_eqBool, ↓o_neBool, ↓o_eqPtr, ↓o_nePtr, ↓o_eqPtr', ↓o_eqSl, ↓o_neSl, ↓o_eqStr, ↓o_neStr, ↓o_len, ↓o_lenS, ↓o_min, ↓o_max, ↓o_extract, ↓o_convInt, ↓cd_true, ↓cd_false, ↓gate_tt, ↓gate_ff, ↓gate_tf, ↓gate_ft, ↓gate_undef, ↓o_bind, ↓stay_v, ↓pop_cons, ↓fin_nil, Option.isNone_none, Option.isNone_some, Bool.not_true, Bool.not_false, Nat.zero_add, decide_true, decide_false, if_true, if_false, Bool.false_eq_true, ↓reduceIte]
  cases b with
  | nil =>
    simp only [show decide ((([] : List UInt8).length : Int) = 0) = true from rfl, ↓o_nil, ↓o_field, ↓o_add, ↓o_sub, ↓o_mul, ↓o_lss, ↓o_leq, ↓o_gtr, ↓o_geq, ↓o_not, ↓o_pick, ↓o_eqInt, ↓o_neInt, ↓o_eqBool, ↓o_neBool, ↓o_eqPtr, ↓o_nePtr, ↓o_eqPtr', ↓o_eqSl, ↓o_neSl, ↓o_eqStr, ↓o_neStr, ↓o_len, ↓o_lenS, ↓o_min, ↓o_max, ↓o_extract, ↓o_convInt, ↓cd_true, ↓cd_false, ↓gate_tt, ↓gate_ff, ↓gate_tf, ↓gate_ft, ↓gate_undef, ↓o_bind, ↓stay_v, ↓pop_cons, ↓fin_nil, Option.isNone_none, Option.isNone_some, Bool.not_true, Bool.not_false, Nat.zero_add, decide_true, decide_false, if_true, if_false, Bool.false_eq_true, ↓reduceIte]
    exact backT_nil h k
  | cons n r =>
  have f2 : ¬ ((n :: r).length : Int) = 0 := by simp <;> omega
  simp only [f2, ↓o_nil, ↓o_field, ↓o_add, ↓o_sub, ↓o_mul, ↓o_lss, ↓o_leq, ↓o_gtr, ↓o_geq, ↓o_not, ↓o_pick, ↓o_eqInt, ↓o_neInt, ↓o_eqBool, ↓o_neBool, ↓o_eqPtr, ↓o_nePtr, ↓o_eqPtr', ↓o_eqSl, ↓o_neSl, ↓o_eqStr, ↓o_neStr, ↓o_len, ↓o_lenS, ↓o_min, ↓o_max, ↓o_extract, ↓o_convInt, ↓cd_true, ↓cd_false, ↓gate_tt, ↓gate_ff, ↓gate_tf, ↓gate_ft, ↓gate_undef, ↓o_bind, ↓stay_v, ↓pop_cons, ↓fin_nil, Option.isNone_none, Option.isNone_some, Bool.not_true, Bool.not_false, Nat.zero_add, decide_true, decide_false, if_true, if_false, Bool.false_eq_true, ↓reduceIte]
  have hcons := hb
  obtain ⟨bb, o, c', e1, _, hb⟩ := hb.opened h (by simp)
  cases e1
  have hn := n.toNat_lt
  rw [o_index (by decide) (by simp <;> omega)]
  refine ld_rd h hb 0 rfl (v := .int .u8 n.toNat) rfl ?_
  rw [o_gtr]
  by_cases h3 : 8 < n.toNat
  · have f3 : (8 : Int) < n.toNat := by omega
    simp only [f3, ↓o_nil, ↓o_field, ↓o_add, ↓o_sub, ↓o_mul, ↓o_lss, ↓o_leq, ↓o_gtr, ↓o_geq, ↓o_not, ↓o_pick, ↓o_eqInt, ↓o_neInt, ↓o_eqBool, ↓o_neBool, ↓o_eqPtr, ↓o_nePtr, ↓o_eqPtr', ↓o_eqSl, ↓o_neSl, ↓o_eqStr, ↓o_neStr, ↓o_len, ↓o_lenS, ↓o_min, ↓o_max, ↓o_extract, ↓o_convInt, ↓cd_true, ↓cd_false, ↓gate_tt, ↓gate_ff, ↓gate_tf, ↓gate_ft, ↓gate_undef, ↓o_bind, ↓stay_v, ↓pop_cons, ↓fin_nil, Option.isNone_none, Option.isNone_some, Bool.not_true, Bool.not_false, Nat.zero_add, decide_true, decide_false, if_true, if_false, Bool.false_eq_true, ↓reduceIte]
    rw [columns_many h1 h3] at k
    exact backT_nil h k
  have f3 : ¬ (8 : Int) < n.toNat := by omega
  simp only [f3, ↓o_nil, ↓o_field, ↓o_add, ↓o_sub, ↓o_mul, ↓o_lss, ↓o_leq, ↓o_gtr, ↓o_geq, ↓o_not, ↓o_pick, ↓o_eqInt, ↓o_neInt, ↓o_eqBool, ↓o_neBool, ↓o_eqPtr, ↓o_nePtr, ↓o_eqPtr', ↓o_eqSl, ↓o_neSl, ↓o_eqStr, ↓o_neStr, ↓o_len, ↓o_lenS, ↓o_min, ↓o_max, ↓o_extract, ↓o_convInt, ↓cd_true, ↓cd_false, ↓gate_tt, ↓gate_ff, ↓gate_tf, ↓gate_ft, ↓gate_undef, ↓o_bind, ↓stay_v, ↓pop_cons, ↓fin_nil, Option.isNone_none, Option.isNone_some, Bool.not_true, Bool.not_false, Nat.zero_add, decide_true, decide_false, if_true, if_false, Bool.false_eq_true, ↓reduceIte]
  try rw [o_index (by decide) (by simp <;> omega)]
  refine ld_rd h hb 0 rfl (v := .int .u8 n.toNat) rfl ?_
  rw [columns_go h1 h3] at k
  refine make_sl h rfl (by omega) (by omega) (by omega) (by omega) fun bm w h => ?_
  rw [Int.toNat_natCast] at h ⊢
  have h : sat E w (pts bm (.cells (List.replicate n.toNat (tv [])).toArray 9 (0, 0)) * H) := h
  rw [o_slice_l (by decide) (by simp <;> omega)]
  try rw [o_len]
  have hr0 := rds_cutl (lo := 1) hb rfl (by simp)
  have er : (n :: r).length - 1 = r.length := by simp
  rw [er] at hr0
  have er2 : (n :: r).length - (1 : Int).toNat = r.length := by show (n :: r).length - 1 = _; simp
  rw [er2]
  have hrl : r.length ≤ 72 := by simp at h1; omega
  generalize hN : n.toNat = N at *
  refine lp_nat (fun q σ w => ∃ (i : Nat) (a' : Option Addr) (c' : Nat) (s : List UInt8) (ds : List (List UInt8)), σ = [.slice a' s.length c', .int .i64 (i : Int)] ∧ q = N - i ∧ i ≤ N ∧ s.length ≤ 72 ∧ ds.length = i ∧
      Rds H (.slice a' s.length c') s.length (s.map bv) ∧ colsGo N r = (colsGo (N - i) s).map (ds ++ ·) ∧ sat E w (pts bm (.cells (ds.map tv ++ List.replicate (N - i) (tv [])).toArray 9 (0, 0)) * H)) N
    ⟨0, cutA (some ⟨bb, o, none⟩) c 1 1, c - 1, r, [], rfl, rfl, by omega, hrl, rfl, hr0, by simp, h⟩ ?_
  clear h
  rintro q σ w again ⟨i, a', c', s, ds, rfl, rfl, hi, hsl, hdl, hs, hgo, h⟩ hag
  rw [pop_cons, pop_cons, fin_nil, o_lss]
  refine cd_dec (fun hlt => ?_) (fun hge => ?_)
  · have hlt : i < N := by omega
    obtain ⟨m, hm⟩ : ∃ m, N - i = m + 1 := ⟨N - i - 1, by omega⟩
    have bad : (colsGo N r = none) → K (.tuple #[.slice none 0 0, .int .i64 3]) w := fun hx => by
      rw [hx] at k
      exact backT_nil h.drop k
    rw [o_len, o_eqInt]
    cases s with
    | nil =>
      simp only [show decide ((([] : List UInt8).length : Int) = 0) = true from rfl, ↓o_nil, ↓o_field, ↓o_add, ↓o_sub, ↓o_mul, ↓o_lss, ↓o_leq, ↓o_gtr, ↓o_geq, ↓o_not, ↓o_pick, ↓o_eqInt, ↓o_neInt, ↓o_eqBool, ↓o_neBool, ↓o_eqPtr, ↓o_nePtr, ↓o_eqPtr', ↓o_eqSl, ↓o_neSl, ↓o_eqStr, ↓o_neStr, ↓o_len, ↓o_lenS, ↓o_min, ↓o_max, ↓o_extract, ↓o_convInt, ↓cd_true, ↓cd_false, ↓gate_tt, ↓gate_ff, ↓gate_tf, ↓gate_ft, ↓gate_undef, ↓o_bind, ↓stay_v, ↓pop_cons, ↓fin_nil, Option.isNone_none, Option.isNone_some, Bool.not_true, Bool.not_false, Nat.zero_add, decide_true, decide_false, if_true, if_false, Bool.false_eq_true, ↓reduceIte]
      refine bad ?_
      rw [hgo, hm]; rfl
    | cons y s =>
    have g2 : ¬ ((y :: s).length : Int) = 0 := by simp <;> omega
    have hy := y.toNat_lt
    obtain ⟨bs, os, cs', e1, hcs, hs⟩ := hs.opened h.drop (by simp)
    cases e1
    simp only [g2, ↓o_nil, ↓o_field, ↓o_add, ↓o_sub, ↓o_mul, ↓o_lss, ↓o_leq, ↓o_gtr, ↓o_geq, ↓o_not, ↓o_pick, ↓o_eqInt, ↓o_neInt, ↓o_eqBool, ↓o_neBool, ↓o_eqPtr, ↓o_nePtr, ↓o_eqPtr', ↓o_eqSl, ↓o_neSl, ↓o_eqStr, ↓o_neStr, ↓o_len, ↓o_lenS, ↓o_min, ↓o_max, ↓o_extract, ↓o_convInt, ↓cd_true, ↓cd_false, ↓gate_tt, ↓gate_ff, ↓gate_tf, ↓gate_ft, ↓gate_undef, ↓o_bind, ↓stay_v, ↓pop_cons, ↓fin_nil, Option.isNone_none, Option.isNone_some, Bool.not_true, Bool.not_false, Nat.zero_add, decide_true, decide_false, if_true, if_false, Bool.false_eq_true, ↓reduceIte]
    rw [o_index (by decide) (by simp <;> omega)]
    refine ld_rd h hs.right 0 rfl (v := .int .u8 y.toNat) rfl ?_
    rw [o_gtr]
    by_cases h5 : 70 < y.toNat
    · have f5 : (70 : Int) < y.toNat := by omega
      simp only [f5, ↓o_nil, ↓o_field, ↓o_add, ↓o_sub, ↓o_mul, ↓o_lss, ↓o_leq, ↓o_gtr, ↓o_geq, ↓o_not, ↓o_pick, ↓o_eqInt, ↓o_neInt, ↓o_eqBool, ↓o_neBool, ↓o_eqPtr, ↓o_nePtr, ↓o_eqPtr', ↓o_eqSl, ↓o_neSl, ↓o_eqStr, ↓o_neStr, ↓o_len, ↓o_lenS, ↓o_min, ↓o_max, ↓o_extract, ↓o_convInt, ↓cd_true, ↓cd_false, ↓gate_tt, ↓gate_ff, ↓gate_tf, ↓gate_ft, ↓gate_undef, ↓o_bind, ↓stay_v, ↓pop_cons, ↓fin_nil, Option.isNone_none, Option.isNone_some, Bool.not_true, Bool.not_false, Nat.zero_add, decide_true, decide_false, if_true, if_false, Bool.false_eq_true, ↓reduceIte]
      refine bad ?_
      rw [hgo, hm, colsGo_stop (.inl h5)]; rfl
    have f5 : ¬ (70 : Int) < y.toNat := by omega
    simp only [f5, ↓o_nil, ↓o_field, ↓o_add, ↓o_sub, ↓o_mul, ↓o_lss, ↓o_leq, ↓o_gtr, ↓o_geq, ↓o_not, ↓o_pick, ↓o_eqInt, ↓o_neInt, ↓o_eqBool, ↓o_neBool, ↓o_eqPtr, ↓o_nePtr, ↓o_eqPtr', ↓o_eqSl, ↓o_neSl, ↓o_eqStr, ↓o_neStr, ↓o_len, ↓o_lenS, ↓o_min, ↓o_max, ↓o_extract, ↓o_convInt, ↓cd_true, ↓cd_false, ↓gate_tt, ↓gate_ff, ↓gate_tf, ↓gate_ft, ↓gate_undef, ↓o_bind, ↓stay_v, ↓pop_cons, ↓fin_nil, Option.isNone_none, Option.isNone_some, Bool.not_true, Bool.not_false, Nat.zero_add, decide_true, decide_false, if_true, if_false, Bool.false_eq_true, ↓reduceIte]
    try rw [o_index (by decide) (by simp <;> omega)]
    refine ld_rd h hs.right 0 rfl (v := .int .u8 y.toNat) rfl ?_
    have ew : IntKind.i64.wrap (y.toNat : Int) = (y.toNat : Int) := i64_of (by omega) (by omega)
    rw [o_convInt, ew]
    try rw [o_len]
    rw [o_geq]
    by_cases h6 : s.length < y.toNat
    · have f6 : (((y :: s).length : Nat) : Int) ≤ y.toNat := by simp <;> omega
      simp only [f6, ↓o_nil, ↓o_field, ↓o_add, ↓o_sub, ↓o_mul, ↓o_lss, ↓o_leq, ↓o_gtr, ↓o_geq, ↓o_not, ↓o_pick, ↓o_eqInt, ↓o_neInt, ↓o_eqBool, ↓o_neBool, ↓o_eqPtr, ↓o_nePtr, ↓o_eqPtr', ↓o_eqSl, ↓o_neSl, ↓o_eqStr, ↓o_neStr, ↓o_len, ↓o_lenS, ↓o_min, ↓o_max, ↓o_extract, ↓o_convInt, ↓cd_true, ↓cd_false, ↓gate_tt, ↓gate_ff, ↓gate_tf, ↓gate_ft, ↓gate_undef, ↓o_bind, ↓stay_v, ↓pop_cons, ↓fin_nil, Option.isNone_none, Option.isNone_some, Bool.not_true, Bool.not_false, Nat.zero_add, decide_true, decide_false, if_true, if_false, Bool.false_eq_true, ↓reduceIte]
      refine bad ?_
      rw [hgo, hm, colsGo_stop (.inr h6)]; rfl
    have f6 : ¬ (((y :: s).length : Nat) : Int) ≤ y.toNat := by simp <;> omega
    simp only [f6, ↓o_nil, ↓o_field, ↓o_add, ↓o_sub, ↓o_mul, ↓o_lss, ↓o_leq, ↓o_gtr, ↓o_geq, ↓o_not, ↓o_pick, ↓o_eqInt, ↓o_neInt, ↓o_eqBool, ↓o_neBool, ↓o_eqPtr, ↓o_nePtr, ↓o_eqPtr', ↓o_eqSl, ↓o_neSl, ↓o_eqStr, ↓o_neStr, ↓o_len, ↓o_lenS, ↓o_min, ↓o_max, ↓o_extract, ↓o_convInt, ↓cd_true, ↓cd_false, ↓gate_tt, ↓gate_ff, ↓gate_tf, ↓gate_ft, ↓gate_undef, ↓o_bind, ↓stay_v, ↓pop_cons, ↓fin_nil, Option.isNone_none, Option.isNone_some, Bool.not_true, Bool.not_false, Nat.zero_add, decide_true, decide_false, if_true, if_false, Bool.false_eq_true, ↓reduceIte]
    try rw [o_index (by decide) (by simp <;> omega)]
    refine ld_rd h hs.right 0 rfl (v := .int .u8 y.toNat) rfl ?_
    have ew2 : IntKind.i64.wrap ((y.toNat : Int) + 1) = ((y.toNat + 1 : Nat) : Int) := by rw [i64_of (by omega) (by omega)]; omega
    rw [o_convInt, ew, o_add, ew2, o_slice_lh (by decide) (by omega) (by simp at hcs; omega)]
    have hcut := ((hs E _ h.drop).cut (lo := 1) (hi := y.toNat + 1) (by simp) (by omega) (by simp <;> omega))
    have ht : ((s.take y.toNat).map bv) = (((y :: s).map bv).drop 1).take (y.toNat + 1 - 1) := by simp
    have htl : (s.take y.toNat).length = y.toNat := by simp <;> omega
    refine conv_bs (l := s.take y.toNat) (by
      rw [htl, ht]
      exact hcut) ?_
    rw [o_index (by omega) (by omega), Int.toNat_natCast, Nat.mul_one]
    refine store_sl (b := bm) (o := 0 + i) h rfl (by simp <;> omega) fun w h => ?_
    rw [o_slice_l (by omega) (by simp <;> omega)]
    (try rw [o_add]); rw [i64_of (by omega) (by omega)]
    have hs2 := rds_cutl (lo := y.toNat + 1) hs rfl (by simp <;> omega)
    have ed : (y :: s).drop (y.toNat + 1) = s.drop y.toNat := by simp
    rw [ed] at hs2
    have el : (y :: s).length - (y.toNat + 1) = (s.drop y.toNat).length := by simp
    rw [el] at hs2
    refine hag (N - (i + 1)) _ _ (by omega) ⟨i + 1, _, _, s.drop y.toNat, ds ++ [s.take y.toNat], ?_, rfl, by omega, by simp at hsl ⊢; omega, by simp [hdl], hs2, ?_, ?_⟩
    · rw [Int.toNat_natCast, el]; rfl
    · rw [hgo, hm, colsGo_step (by omega), show N - (i + 1) = m by omega, Option.map_map]
      congr 1
      funext x
      simp
    · rw [Nat.zero_add] at h
      have e3 := text_fill (t := s.take y.toNat) hdl hlt
      rw [← e3]
      exact h
  · have hi2 : i = N := by omega
    subst hi2
    rw [o_len, o_gtr]
    cases s with
    | nil =>
      simp only [show decide ((0 : Int) < (([] : List UInt8).length : Int)) = false from rfl, ↓o_nil, ↓o_field, ↓o_add, ↓o_sub, ↓o_mul, ↓o_lss, ↓o_leq, ↓o_gtr, ↓o_geq, ↓o_not, ↓o_pick, ↓o_eqInt, ↓o_neInt, ↓o_eqBool, ↓o_neBool, ↓o_eqPtr, ↓o_nePtr, ↓o_eqPtr', ↓o_eqSl, ↓o_neSl, ↓o_eqStr, ↓o_neStr, ↓o_len, ↓o_lenS, ↓o_min, ↓o_max, ↓o_extract, ↓o_convInt, ↓cd_true, ↓cd_false, ↓gate_tt, ↓gate_ff, ↓gate_tf, ↓gate_ft, ↓gate_undef, ↓o_bind, ↓stay_v, ↓pop_cons, ↓fin_nil, Option.isNone_none, Option.isNone_some, Bool.not_true, Bool.not_false, Nat.zero_add, decide_true, decide_false, if_true, if_false, Bool.false_eq_true, ↓reduceIte]
      have hx : colsGo i r = some ds := by rw [hgo, Nat.sub_self]; simp [colsGo]
      rw [hx] at k
      refine k _ _ ?_
      have e4 : (ds.map tv ++ List.replicate (i - i) (tv [])) = ds.map tv := by simp
      rw [e4] at h
      have := osl_of (n := i) (sz := 1) h (by simp [hdl]) (by omega)
      rw [hdl]
      exact this
    | cons y s =>
      have g2 : (0 : Int) < ((y :: s).length : Int) := by simp <;> omega
      simp only [g2, ↓o_nil, ↓o_field, ↓o_add, ↓o_sub, ↓o_mul, ↓o_lss, ↓o_leq, ↓o_gtr, ↓o_geq, ↓o_not, ↓o_pick, ↓o_eqInt, ↓o_neInt, ↓o_eqBool, ↓o_neBool, ↓o_eqPtr, ↓o_nePtr, ↓o_eqPtr', ↓o_eqSl, ↓o_neSl, ↓o_eqStr, ↓o_neStr, ↓o_len, ↓o_lenS, ↓o_min, ↓o_max, ↓o_extract, ↓o_convInt, ↓cd_true, ↓cd_false, ↓gate_tt, ↓gate_ff, ↓gate_tf, ↓gate_ft, ↓gate_undef, ↓o_bind, ↓stay_v, ↓pop_cons, ↓fin_nil, Option.isNone_none, Option.isNone_some, Bool.not_true, Bool.not_false, Nat.zero_add, decide_true, decide_false, if_true, if_false, Bool.false_eq_true, ↓reduceIte]
      have hx : colsGo i r = none := by rw [hgo, Nat.sub_self]; simp [colsGo]
      rw [hx] at k
      exact backT_nil h.drop k
end Go.Proofs.YtnkmgkilfkgfhaaDoor
