/-
  Columns of rows, the reference's.
-/
import Derived.Test.YtnkmgkilfkgfhaaDoorCodL
set_option linter.all false
set_option maxRecDepth 10000
namespace Go.Proofs.YtnkmgkilfkgfhaaDoor
open Go Hold
variable {E : World0} {w : World} {H R : HP} {K : Value → World → Prop}
theorem RColumns_spec (h : sat E w H) {v : Value} {b : List UInt8} (hb : Rds H v b.length (b.map bv)) (hbl : b.length ≤ 9223372036854775000) (k : backT K E H (columns b)) : Calls prog 23 #[v] w (Ret K) := by
  obtain ⟨a, c, rfl, hc, hb, hbn⟩ := hb.shape h
  refine c23 ?_
  unfold B23
  rw [o_len, o_gtr]
  by_cases h1 : 72 < b.length
  · have f1 : (72 : Int) < b.length := by omega
    simp only [f1, ↓o_nil, ↓o_field, ↓o_add, ↓o_sub, ↓o_mul, ↓o_lss, ↓o_leq, ↓o_gtr, ↓o_geq, ↓o_not, ↓o_pick, ↓o_eqInt, ↓o_neInt, ↓o_eqBool, ↓o_neBool, ↓o_eqPtr, ↓o_nePtr, ↓o_eqPtr', ↓o_eqSl, ↓o_neSl, ↓o_eqStr, ↓o_neStr, ↓o_len, ↓o_lenS, ↓o_min, ↓o_max, ↓o_extract, ↓o_convInt, ↓cd_true, ↓cd_false, ↓gate_tt, ↓gate_ff, ↓gate_tf, ↓gate_ft, ↓gate_undef, ↓o_bind, ↓stay_v, ↓pop_cons, ↓fin_nil, Option.isNone_none, Option.isNone_some, Bool.not_true, Bool.not_false, Nat.zero_add, decide_true, decide_false, if_true, if_false, Bool.false_eq_true, ↓reduceIte]
    rw [columns_long h1] at k
    exact backT_nil h k
  have f1 : ¬ (72 : Int) < b.length := by omega
  simp only [f1, ↓o_nil, ↓o_field, ↓o_add, ↓o_sub, ↓o_mul, ↓o_lss, ↓o_leq, ↓o_gtr, ↓o_geq, ↓o_not, ↓o_pick, ↓o_eqInt, ↓o_neInt, ↓o_eqBool, ↓o_neBool, ↓o_eqPtr, ↓o_nePtr, ↓o_eqPtr', ↓o_eqSl, ↓o_neSl, ↓o_eqStr, ↓o_neStr, ↓o_len, ↓o_lenS, ↓o_min, ↓o_max, ↓o_extract, ↓o_convInt, ↓cd_true, ↓cd_false, ↓gate_tt, ↓gate_ff, ↓gate_tf, ↓gate_ft, ↓gate_undef, ↓o_bind, ↓stay_v, ↓pop_cons, ↓fin_nil, Option.isNone_none, Option.isNone_some, Bool.not_true, Bool.not_false, Nat.zero_add, decide_true, decide_false, if_true, if_false, Bool.false_eq_true, ↓reduceIte]
  cases b with
  | nil =>
    simp only [show decide ((([] : List UInt8).length : Int) < 1) = true from rfl, ↓o_nil, ↓o_field, ↓o_add, ↓o_sub, ↓o_mul, ↓o_lss, ↓o_leq, ↓o_gtr, ↓o_geq, ↓o_not, ↓o_pick, ↓o_eqInt, ↓o_neInt, ↓o_eqBool, ↓o_neBool, ↓o_eqPtr, ↓o_nePtr, ↓o_eqPtr', ↓o_eqSl, ↓o_neSl, ↓o_eqStr, ↓o_neStr, ↓o_len, ↓o_lenS, ↓o_min, ↓o_max, ↓o_extract, ↓o_convInt, ↓cd_true, ↓cd_false, ↓gate_tt, ↓gate_ff, ↓gate_tf, ↓gate_ft, ↓gate_undef, ↓o_bind, ↓stay_v, ↓pop_cons, ↓fin_nil, Option.isNone_none, Option.isNone_some, Bool.not_true, Bool.not_false, Nat.zero_add, decide_true, decide_false, if_true, if_false, Bool.false_eq_true, ↓reduceIte]
    exact backT_nil h k
  | cons n r =>
  have f2 : ¬ ((n :: r).length : Int) < 1 := by simp <;> omega
  simp only [f2, ↓o_nil, ↓o_field, ↓o_add, ↓o_sub, ↓o_mul, ↓o_lss, ↓o_leq, ↓o_gtr, ↓o_geq, ↓o_not, ↓o_pick, ↓o_eqInt, ↓o_neInt, ↓o_eqBool, ↓o_neBool, ↓o_eqPtr, ↓o_nePtr, ↓o_eqPtr', ↓o_eqSl, ↓o_neSl, ↓o_eqStr, ↓o_neStr, ↓o_len, ↓o_lenS, ↓o_min, ↓o_max, ↓o_extract, ↓o_convInt, ↓cd_true, ↓cd_false, ↓gate_tt, ↓gate_ff, ↓gate_tf, ↓gate_ft, ↓gate_undef, ↓o_bind, ↓stay_v, ↓pop_cons, ↓fin_nil, Option.isNone_none, Option.isNone_some, Bool.not_true, Bool.not_false, Nat.zero_add, decide_true, decide_false, if_true, if_false, Bool.false_eq_true, ↓reduceIte]
  obtain ⟨bb, o, c', e1, _, hb⟩ := hb.opened h (by simp)
  cases e1
  have hn := n.toNat_lt
  rw [o_index (by decide) (by simp <;> omega)]
  refine ld_rd h hb 0 rfl (v := .int .u8 n.toNat) rfl ?_
  rw [o_gtr]
  by_cases h3 : 8 < n.toNat
  · have f3 : (8 : Int) < n.toNat := by omega
    simp only [f3, ↓o_nil, ↓o_field, ↓o_add, ↓o_sub, ↓o_mul, ↓o_lss, ↓o_leq, ↓o_gtr, ↓o_geq, ↓o_not, ↓o_pick, ↓o_eqInt, ↓o_neInt, ↓o_eqBool, ↓o_neBool, ↓o_eqPtr, ↓o_nePtr, ↓o_eqPtr', ↓o_eqSl, ↓o_neSl, ↓o_eqStr, ↓o_neStr, ↓o_len, ↓o_lenS, ↓o_min, ↓o_max, ↓o_extract, ↓o_convInt, ↓cd_true, ↓cd_false, ↓gate_tt, ↓gate_ff, ↓gate_tf, ↓gate_ft, ↓gate_undef, ↓o_bind, ↓stay_v, ↓pop_cons, ↓fin_nil, Option.isNone_none, Option.isNone_some, Bool.not_true, Bool.not_false, Nat.zero_add, decide_true, decide_false, if_true, if_false, Bool.false_eq_true, ↓reduceIte]
    rw [columns_many h1 h3] at k
    exact backT_nil h k
  have f3 : ¬ (8 : Int) < n.toNat := by omega
  simp only [f3, ↓o_nil, ↓o_field, ↓o_add, ↓o_sub, ↓o_mul, ↓o_lss, ↓o_leq, ↓o_gtr, ↓o_geq, ↓o_not, ↓o_pick, ↓o_eqInt, ↓o_neInt, ↓o_eqBool, ↓o_neBool, ↓o_eqPtr, ↓o_nePtr, ↓o_eqPtr', ↓o_eqSl, ↓o_neSl, ↓o_eqStr, ↓o_neStr, ↓o_len, ↓o_lenS, ↓o_min, ↓o_max, ↓o_extract, ↓o_convInt, ↓cd_true, ↓cd_false, ↓gate_tt, ↓gate_ff, ↓gate_tf, ↓gate_ft, ↓gate_undef, ↓o_bind, ↓stay_v, ↓pop_cons, ↓fin_nil, Option.isNone_none, Option.isNone_some, Bool.not_true, Bool.not_false, Nat.zero_add, decide_true, decide_false, if_true, if_false, Bool.false_eq_true, ↓reduceIte]
  rw [columns_go h1 h3] at k
  have hrl : r.length ≤ 71 := by simp at h1; omega
  have ewn : IntKind.i64.wrap (n.toNat : Int) = (n.toNat : Int) := i64_of (by omega) (by omega)
  have i0 : ∀ {w : World} {K : Value → World → Prop}, pvv prog (Instr.indexAt 23 (.slice (some ⟨bb, o, none⟩) (n :: r).length c) (.int .i64 0)) w K = K (.pointer (some ⟨bb, o + 0, none⟩)) w := fun {w K} => by
    rw [o_index (by decide) (by simp <;> omega)]; rfl
  generalize hN : n.toNat = N at *
  refine lp_nat (fun q σ w => ∃ (i t : Nat) (v : Value) (ds : List (List UInt8)), σ = [v, .int .i64 (t : Int), .int .i64 (i : Int)] ∧ q = N - i ∧ i ≤ N ∧ 1 ≤ t ∧ t ≤ (n :: r).length ∧ ds.length = i ∧
      colsGo N r = (colsGo (N - i) ((n :: r).drop t)).map (ds ++ ·) ∧ sat E w (osl 9 1 v i (ds.map tv) * H)) N
    ⟨0, 1, .slice none 0 0, [], rfl, rfl, by omega, by omega, by simp, rfl, by simp, osl_nil h 9 1⟩ ?_
  clear h
  rintro q σ w again ⟨i, t, v, ds, rfl, rfl, hi, ht1, ht2, hdl, hgo, h⟩ hag
  rw [pop_cons, pop_cons, pop_cons, fin_nil, i0]
  refine ld_rd h hb.right 0 rfl (v := .int .u8 n.toNat) rfl ?_
  rw [hN, o_convInt, ewn, o_lss]
  have hlr : (n :: r).length = r.length + 1 := rfl
  refine cd_dec (fun hlt => ?_) (fun hge => ?_)
  · have hlt : i < N := by omega
    obtain ⟨m, hm⟩ : ∃ m, N - i = m + 1 := ⟨N - i - 1, by omega⟩
    have bad : (colsGo N r = none) → K (.tuple #[.slice none 0 0, .int .i64 3]) w := fun hx => by
      rw [hx] at k
      exact backT_nil h.drop k
    (try rw [o_len]); rw [o_geq]
    by_cases h4 : (n :: r).length ≤ t
    · have f4 : (((n :: r).length : Nat) : Int) ≤ t := by omega
      simp only [f4, ↓o_nil, ↓o_field, ↓o_add, ↓o_sub, ↓o_mul, ↓o_lss, ↓o_leq, ↓o_gtr, ↓o_geq, ↓o_not, ↓o_pick, ↓o_eqInt, ↓o_neInt, ↓o_eqBool, ↓o_neBool, ↓o_eqPtr, ↓o_nePtr, ↓o_eqPtr', ↓o_eqSl, ↓o_neSl, ↓o_eqStr, ↓o_neStr, ↓o_len, ↓o_lenS, ↓o_min, ↓o_max, ↓o_extract, ↓o_convInt, ↓cd_true, ↓cd_false, ↓gate_tt, ↓gate_ff, ↓gate_tf, ↓gate_ft, ↓gate_undef, ↓o_bind, ↓stay_v, ↓pop_cons, ↓fin_nil, Option.isNone_none, Option.isNone_some, Bool.not_true, Bool.not_false, Nat.zero_add, decide_true, decide_false, if_true, if_false, Bool.false_eq_true, ↓reduceIte]
      refine bad ?_
      rw [hgo, hm, List.drop_eq_nil_of_le h4]; rfl
    have f4 : ¬ (((n :: r).length : Nat) : Int) ≤ t := by omega
    have hget := getbv (l := n :: r) (j := t) (by omega)
    have hcons := drop_getD (l := n :: r) (i := t) (by omega)
    generalize hy : (n :: r).getD t 0 = y at hget hcons
    generalize hs : (n :: r).drop (t + 1) = s at hcons
    have hsl : s.length = (n :: r).length - (t + 1) := by rw [← hs]; simp
    have hyl := y.toNat_lt
    have it : ∀ {w : World} {K : Value → World → Prop}, pvv prog (Instr.indexAt 23 (.slice (some ⟨bb, o, none⟩) (n :: r).length c) (.int .i64 (t : Int))) w K = K (.pointer (some ⟨bb, o + t, none⟩)) w := fun {w K} => by
      rw [o_index (by omega) (by omega), Int.toNat_natCast, Nat.mul_one]
    simp only [f4, it, ↓o_nil, ↓o_field, ↓o_add, ↓o_sub, ↓o_mul, ↓o_lss, ↓o_leq, ↓o_gtr, ↓o_geq, ↓o_not, ↓o_pick, ↓o_eqInt, ↓o_neInt, ↓o_eqBool, ↓o_neBool, ↓o_eqPtr, ↓o_nePtr, ↓o_eqPtr', ↓o_eqSl, ↓o_neSl, ↓o_eqStr, ↓o_neStr, ↓o_len, ↓o_lenS, ↓o_min, ↓o_max, ↓o_extract, ↓o_convInt, ↓cd_true, ↓cd_false, ↓gate_tt, ↓gate_ff, ↓gate_tf, ↓gate_ft, ↓gate_undef, ↓o_bind, ↓stay_v, ↓pop_cons, ↓fin_nil, Option.isNone_none, Option.isNone_some, Bool.not_true, Bool.not_false, Nat.zero_add, decide_true, decide_false, if_true, if_false, Bool.false_eq_true, ↓reduceIte]
    refine ld_rd h hb.right t rfl hget ?_
    rw [show bv y = Value.int .u8 y.toNat from rfl] at hget ⊢
    rw [o_gtr]
    by_cases h5 : 70 < y.toNat
    · have f5 : (70 : Int) < y.toNat := by omega
      simp only [f5, ↓o_nil, ↓o_field, ↓o_add, ↓o_sub, ↓o_mul, ↓o_lss, ↓o_leq, ↓o_gtr, ↓o_geq, ↓o_not, ↓o_pick, ↓o_eqInt, ↓o_neInt, ↓o_eqBool, ↓o_neBool, ↓o_eqPtr, ↓o_nePtr, ↓o_eqPtr', ↓o_eqSl, ↓o_neSl, ↓o_eqStr, ↓o_neStr, ↓o_len, ↓o_lenS, ↓o_min, ↓o_max, ↓o_extract, ↓o_convInt, ↓cd_true, ↓cd_false, ↓gate_tt, ↓gate_ff, ↓gate_tf, ↓gate_ft, ↓gate_undef, ↓o_bind, ↓stay_v, ↓pop_cons, ↓fin_nil, Option.isNone_none, Option.isNone_some, Bool.not_true, Bool.not_false, Nat.zero_add, decide_true, decide_false, if_true, if_false, Bool.false_eq_true, ↓reduceIte]
      refine bad ?_
      rw [hgo, hm, hcons, colsGo_stop (.inl h5)]; rfl
    have f5 : ¬ (70 : Int) < y.toNat := by omega
    simp only [f5, it, ↓o_nil, ↓o_field, ↓o_add, ↓o_sub, ↓o_mul, ↓o_lss, ↓o_leq, ↓o_gtr, ↓o_geq, ↓o_not, ↓o_pick, ↓o_eqInt, ↓o_neInt, ↓o_eqBool, ↓o_neBool, ↓o_eqPtr, ↓o_nePtr, ↓o_eqPtr', ↓o_eqSl, ↓o_neSl, ↓o_eqStr, ↓o_neStr, ↓o_len, ↓o_lenS, ↓o_min, ↓o_max, ↓o_extract, ↓o_convInt, ↓cd_true, ↓cd_false, ↓gate_tt, ↓gate_ff, ↓gate_tf, ↓gate_ft, ↓gate_undef, ↓o_bind, ↓stay_v, ↓pop_cons, ↓fin_nil, Option.isNone_none, Option.isNone_some, Bool.not_true, Bool.not_false, Nat.zero_add, decide_true, decide_false, if_true, if_false, Bool.false_eq_true, ↓reduceIte]
    have ew : IntKind.i64.wrap (y.toNat : Int) = (y.toNat : Int) := i64_of (by omega) (by omega)
    have et1 : IntKind.i64.wrap ((t : Int) + 1) = ((t + 1 : Nat) : Int) := by rw [i64_of (by omega) (by omega)]; omega
    have et2 : IntKind.i64.wrap (((t + 1 : Nat) : Int) + y.toNat) = ((t + 1 + y.toNat : Nat) : Int) := by rw [i64_of (by omega) (by omega)]; omega
    refine ld_rd h hb.right t rfl hget ?_
    simp only [ew, et1, et2, ↓o_nil, ↓o_field, ↓o_add, ↓o_sub, ↓o_mul, ↓o_lss, ↓o_leq, ↓o_gtr, ↓o_geq, ↓o_not, ↓o_pick, ↓o_eqInt, ↓o_neInt, ↓o_eqBool, ↓o_neBool, ↓o_eqPtr, ↓o_nePtr, ↓o_eqPtr', ↓o_eqSl, ↓o_neSl, ↓o_eqStr, ↓o_neStr, ↓o_len, ↓o_lenS, ↓o_min, ↓o_max, ↓o_extract, ↓o_convInt, ↓cd_true, ↓cd_false, ↓gate_tt, ↓gate_ff, ↓gate_tf, ↓gate_ft, ↓gate_undef, ↓o_bind, ↓stay_v, ↓pop_cons, ↓fin_nil, Option.isNone_none, Option.isNone_some, Bool.not_true, Bool.not_false, Nat.zero_add, decide_true, decide_false, if_true, if_false, Bool.false_eq_true, ↓reduceIte]
    by_cases h6 : s.length < y.toNat
    · have f6 : (((n :: r).length : Nat) : Int) < ((t + 1 + y.toNat : Nat) : Int) := by omega
      simp only [f6, ↓o_nil, ↓o_field, ↓o_add, ↓o_sub, ↓o_mul, ↓o_lss, ↓o_leq, ↓o_gtr, ↓o_geq, ↓o_not, ↓o_pick, ↓o_eqInt, ↓o_neInt, ↓o_eqBool, ↓o_neBool, ↓o_eqPtr, ↓o_nePtr, ↓o_eqPtr', ↓o_eqSl, ↓o_neSl, ↓o_eqStr, ↓o_neStr, ↓o_len, ↓o_lenS, ↓o_min, ↓o_max, ↓o_extract, ↓o_convInt, ↓cd_true, ↓cd_false, ↓gate_tt, ↓gate_ff, ↓gate_tf, ↓gate_ft, ↓gate_undef, ↓o_bind, ↓stay_v, ↓pop_cons, ↓fin_nil, Option.isNone_none, Option.isNone_some, Bool.not_true, Bool.not_false, Nat.zero_add, decide_true, decide_false, if_true, if_false, Bool.false_eq_true, ↓reduceIte]
      refine bad ?_
      rw [hgo, hm, hcons, colsGo_stop (.inr h6)]; rfl
    have f6 : ¬ (((n :: r).length : Nat) : Int) < ((t + 1 + y.toNat : Nat) : Int) := by omega
    simp only [f6, it, ↓o_nil, ↓o_field, ↓o_add, ↓o_sub, ↓o_mul, ↓o_lss, ↓o_leq, ↓o_gtr, ↓o_geq, ↓o_not, ↓o_pick, ↓o_eqInt, ↓o_neInt, ↓o_eqBool, ↓o_neBool, ↓o_eqPtr, ↓o_nePtr, ↓o_eqPtr', ↓o_eqSl, ↓o_neSl, ↓o_eqStr, ↓o_neStr, ↓o_len, ↓o_lenS, ↓o_min, ↓o_max, ↓o_extract, ↓o_convInt, ↓cd_true, ↓cd_false, ↓gate_tt, ↓gate_ff, ↓gate_tf, ↓gate_ft, ↓gate_undef, ↓o_bind, ↓stay_v, ↓pop_cons, ↓fin_nil, Option.isNone_none, Option.isNone_some, Bool.not_true, Bool.not_false, Nat.zero_add, decide_true, decide_false, if_true, if_false, Bool.false_eq_true, ↓reduceIte]
    refine ld_rd h hb.right t rfl hget ?_
    simp only [ew, et1, et2, ↓o_nil, ↓o_field, ↓o_add, ↓o_sub, ↓o_mul, ↓o_lss, ↓o_leq, ↓o_gtr, ↓o_geq, ↓o_not, ↓o_pick, ↓o_eqInt, ↓o_neInt, ↓o_eqBool, ↓o_neBool, ↓o_eqPtr, ↓o_nePtr, ↓o_eqPtr', ↓o_eqSl, ↓o_neSl, ↓o_eqStr, ↓o_neStr, ↓o_len, ↓o_lenS, ↓o_min, ↓o_max, ↓o_extract, ↓o_convInt, ↓cd_true, ↓cd_false, ↓gate_tt, ↓gate_ff, ↓gate_tf, ↓gate_ft, ↓gate_undef, ↓o_bind, ↓stay_v, ↓pop_cons, ↓fin_nil, Option.isNone_none, Option.isNone_some, Bool.not_true, Bool.not_false, Nat.zero_add, decide_true, decide_false, if_true, if_false, Bool.false_eq_true, ↓reduceIte]
    rw [o_slice_lh (by omega) (by omega) (by omega)]
    have hcut := ((hb E _ h.drop).cut (lo := t + 1) (hi := t + 1 + y.toNat) (by simp) (by omega) (by omega))
    have hte : ((s.take y.toNat).map bv) = (((n :: r).map bv).drop (t + 1)).take (t + 1 + y.toNat - (t + 1)) := by
      rw [← List.map_drop, hs, show t + 1 + y.toNat - (t + 1) = y.toNat by omega, List.map_take]
    have htl : (s.take y.toNat).length = t + 1 + y.toNat - (t + 1) := by simp; omega
    refine conv_bs (l := s.take y.toNat) (by
      rw [htl, hte]
      exact hcut) ?_
    refine push_sl (v := v) h rfl rfl (by omega) (by omega) fun v2 w h => ?_
    have e8 : IntKind.i64.wrap (1 + (y.toNat : Int)) = ((1 + y.toNat : Nat) : Int) := by rw [i64_of (by omega) (by omega)]; omega
    have e9 : IntKind.i64.wrap ((t : Int) + ((1 + y.toNat : Nat) : Int)) = ((t + 1 + y.toNat : Nat) : Int) := by rw [i64_of (by omega) (by omega)]; omega
    have e10 : IntKind.i64.wrap ((i : Int) + 1) = ((i + 1 : Nat) : Int) := by rw [i64_of (by omega) (by omega)]; omega
    simp only [e8, e9, e10, ↓o_nil, ↓o_field, ↓o_add, ↓o_sub, ↓o_mul, ↓o_lss, ↓o_leq, ↓o_gtr, ↓o_geq, ↓o_not, ↓o_pick, ↓o_eqInt, ↓o_neInt, ↓o_eqBool, ↓o_neBool, ↓o_eqPtr, ↓o_nePtr, ↓o_eqPtr', ↓o_eqSl, ↓o_neSl, ↓o_eqStr, ↓o_neStr, ↓o_len, ↓o_lenS, ↓o_min, ↓o_max, ↓o_extract, ↓o_convInt, ↓cd_true, ↓cd_false, ↓gate_tt, ↓gate_ff, ↓gate_tf, ↓gate_ft, ↓gate_undef, ↓o_bind, ↓stay_v, ↓pop_cons, ↓fin_nil, Option.isNone_none, Option.isNone_some, Bool.not_true, Bool.not_false, Nat.zero_add, decide_true, decide_false, if_true, if_false, Bool.false_eq_true, ↓reduceIte]
    refine hag (N - (i + 1)) _ _ (by omega) ⟨i + 1, t + 1 + y.toNat, v2, ds ++ [s.take y.toNat], rfl, rfl, by omega, by omega, by omega, by simp [hdl], ?_, ?_⟩
    · rw [hgo, hm, hcons, colsGo_step (by omega), show N - (i + 1) = m by omega, Option.map_map, ← List.drop_drop, hs]
      congr 1
      funext x
      simp
    · have e3 : ds.map tv ++ [Value.string ⟨(s.take y.toNat).toArray⟩] = (ds ++ [s.take y.toNat]).map tv := by simp [tv]
      rw [← e3]
      exact h
  · have hi2 : i = N := by omega
    subst hi2
    (try rw [o_len]); rw [o_neInt]
    by_cases h7 : t = (n :: r).length
    · have f7 : (t : Int) = ((n :: r).length : Nat) := by omega
      simp only [f7, ↓o_nil, ↓o_field, ↓o_add, ↓o_sub, ↓o_mul, ↓o_lss, ↓o_leq, ↓o_gtr, ↓o_geq, ↓o_not, ↓o_pick, ↓o_eqInt, ↓o_neInt, ↓o_eqBool, ↓o_neBool, ↓o_eqPtr, ↓o_nePtr, ↓o_eqPtr', ↓o_eqSl, ↓o_neSl, ↓o_eqStr, ↓o_neStr, ↓o_len, ↓o_lenS, ↓o_min, ↓o_max, ↓o_extract, ↓o_convInt, ↓cd_true, ↓cd_false, ↓gate_tt, ↓gate_ff, ↓gate_tf, ↓gate_ft, ↓gate_undef, ↓o_bind, ↓stay_v, ↓pop_cons, ↓fin_nil, Option.isNone_none, Option.isNone_some, Bool.not_true, Bool.not_false, Nat.zero_add, decide_true, decide_false, if_true, if_false, Bool.false_eq_true, ↓reduceIte]
      have hx : colsGo i r = some ds := by rw [hgo, Nat.sub_self, List.drop_eq_nil_of_le (by omega)]; simp [colsGo]
      rw [hx] at k
      refine k _ _ ?_
      rw [hdl]
      exact h
    · have f7 : ¬ (t : Int) = ((n :: r).length : Nat) := by omega
      simp only [f7, ↓o_nil, ↓o_field, ↓o_add, ↓o_sub, ↓o_mul, ↓o_lss, ↓o_leq, ↓o_gtr, ↓o_geq, ↓o_not, ↓o_pick, ↓o_eqInt, ↓o_neInt, ↓o_eqBool, ↓o_neBool, ↓o_eqPtr, ↓o_nePtr, ↓o_eqPtr', ↓o_eqSl, ↓o_neSl, ↓o_eqStr, ↓o_neStr, ↓o_len, ↓o_lenS, ↓o_min, ↓o_max, ↓o_extract, ↓o_convInt, ↓cd_true, ↓cd_false, ↓gate_tt, ↓gate_ff, ↓gate_tf, ↓gate_ft, ↓gate_undef, ↓o_bind, ↓stay_v, ↓pop_cons, ↓fin_nil, Option.isNone_none, Option.isNone_some, Bool.not_true, Bool.not_false, Nat.zero_add, decide_true, decide_false, if_true, if_false, Bool.false_eq_true, ↓reduceIte]
      have hx : colsGo i r = none := by rw [hgo, Nat.sub_self, drop_getD (by omega)]; simp [colsGo]
      rw [hx] at k
      exact backT_nil h.drop k
end Go.Proofs.YtnkmgkilfkgfhaaDoor
