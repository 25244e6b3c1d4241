/-
  Orders of bytes and of parts.
-/
import Derived.Test.YtnkmgkilfkgfhaaDoorCodD
import Derived.Test.YtnkmgkilfkgfhaaDoorSame
set_option linter.all false
set_option maxRecDepth 10000
namespace Go.Proofs.YtnkmgkilfkgfhaaDoor
open Go Hold
variable {E : World0} {w : World} {H R : HP} {K : Value → World → Prop}
theorem drop_getD {l : List UInt8} {i : Nat} (h : i < l.length) : l.drop i = l.getD i 0 :: l.drop (i + 1) := by
  rw [List.drop_eq_getElem_cons h]; simp [List.getD_eq_getElem?_getD, h]
theorem drop_getT {l : List (List UInt8)} {i : Nat} (h : i < l.length) : l.drop i = l.getD i [] :: l.drop (i + 1) := by
  rw [List.drop_eq_getElem_cons h]; simp [List.getD_eq_getElem?_getD, h]
theorem lexB_short {a b : List UInt8} {i : Nat} (h : a.length ≤ i ∨ b.length ≤ i) (ha : i ≤ a.length) (hb : i ≤ b.length) : lexB (a.drop i) (b.drop i) = decide (a.length < b.length) := by
  by_cases h1 : a.length ≤ i
  · rw [List.drop_eq_nil_of_le h1]
    cases hd : b.drop i with
    | nil =>
      have := congrArg List.length hd
      simp at this
      rw [show decide (a.length < b.length) = false by simp; omega]; rfl
    | cons c t =>
      have := congrArg List.length hd
      simp at this
      rw [show decide (a.length < b.length) = true by simp; omega]; rfl
  · have h2 : b.length ≤ i := by omega
    rw [List.drop_eq_nil_of_le h2]
    cases hd : a.drop i with
    | nil =>
      have := congrArg List.length hd
      simp at this; omega
    | cons c t =>
      rw [show decide (a.length < b.length) = false by simp; omega]; rfl
theorem Less_spec (h : sat E w H) {v u : Value} {a b : List UInt8} (ha : Rds H v a.length (a.map bv)) (hb : Rds H u b.length (b.map bv)) (hl : a.length ≤ 1000000) (k : ∀ w', sat E w' H → K (.bool (lexB a b)) w') : Calls prog 13 #[v, u] w (Ret K) := by
  obtain ⟨pa, ca, rfl, hca, ha, hna⟩ := ha.shape h
  obtain ⟨pb, cb, rfl, hcb, hb, hnb⟩ := hb.shape h
  refine c13 ?_
  unfold B13
  refine lp_nat (fun q σ w => ∃ i : Nat, σ = [.int .i64 (i : Int)] ∧ q = a.length - i ∧ i ≤ a.length ∧ i ≤ b.length ∧ lexB a b = lexB (a.drop i) (b.drop i) ∧ sat E w H) a.length ⟨0, rfl, rfl, by omega, by omega, rfl, h⟩ ?_
  clear h
  rintro q σ w again ⟨i, rfl, rfl, hi, hj, hx, h⟩ hag
  have done : (a.length ≤ i ∨ b.length ≤ i) → K (.bool (decide ((a.length : Int) < b.length))) w := fun hd => by
    rw [lexB_short hd hi hj] at hx
    have e : decide ((a.length : Int) < b.length) = decide (a.length < b.length) := by simp
    rw [e, ← hx]
    exact k _ h
  rw [pop_cons, fin_nil, o_len, o_lss]
  by_cases h1 : i < a.length
  · have f1 : (i : Int) < a.length := by omega
    simp only [f1, ↓o_nil, ↓o_field, ↓o_add, ↓o_sub, ↓o_mul, ↓o_lss, ↓o_leq, ↓o_gtr, ↓o_geq, ↓o_not, ↓o_pick, ↓o_eqInt, ↓o_neInt, ↓o_eqBool, ↓o_neBool, ↓o_eqPtr, ↓o_nePtr, ↓o_eqPtr', ↓o_eqSl, ↓o_neSl, ↓o_eqStr, ↓o_neStr, ↓o_len, ↓o_lenS, ↓o_min, ↓o_max, ↓o_extract, ↓o_convInt, ↓cd_true, ↓cd_false, ↓gate_tt, ↓gate_ff, ↓gate_tf, ↓gate_ft, ↓gate_undef, ↓o_bind, ↓stay_v, ↓pop_cons, ↓fin_nil, Option.isNone_none, Option.isNone_some, Bool.not_true, Bool.not_false, Nat.zero_add, decide_true, decide_false, if_true, if_false, Bool.false_eq_true, ↓reduceIte]
    by_cases h2 : i < b.length
    · have f2 : (i : Int) < b.length := by omega
      simp only [f2, ↓o_nil, ↓o_field, ↓o_add, ↓o_sub, ↓o_mul, ↓o_lss, ↓o_leq, ↓o_gtr, ↓o_geq, ↓o_not, ↓o_pick, ↓o_eqInt, ↓o_neInt, ↓o_eqBool, ↓o_neBool, ↓o_eqPtr, ↓o_nePtr, ↓o_eqPtr', ↓o_eqSl, ↓o_neSl, ↓o_eqStr, ↓o_neStr, ↓o_len, ↓o_lenS, ↓o_min, ↓o_max, ↓o_extract, ↓o_convInt, ↓cd_true, ↓cd_false, ↓gate_tt, ↓gate_ff, ↓gate_tf, ↓gate_ft, ↓gate_undef, ↓o_bind, ↓stay_v, ↓pop_cons, ↓fin_nil, Option.isNone_none, Option.isNone_some, Bool.not_true, Bool.not_false, Nat.zero_add, decide_true, decide_false, if_true, if_false, Bool.false_eq_true, ↓reduceIte]
      obtain ⟨ba, oa, _, e1, _, ha⟩ := ha.opened h (by simp; omega)
      cases e1
      obtain ⟨bb, ob, _, e1, _, hb⟩ := hb.opened h (by simp; omega)
      cases e1
      have ix : ∀ {w : World} {K : Value → World → Prop}, pvv prog (Instr.indexAt 23 (.slice (some ⟨ba, oa, none⟩) a.length ca) (.int .i64 (i : Int))) w K = K (.pointer (some ⟨ba, oa + i, none⟩)) w := fun {w K} => by
        rw [o_index (by omega) (by omega), Int.toNat_natCast, Nat.mul_one]
      have iy : ∀ {w : World} {K : Value → World → Prop}, pvv prog (Instr.indexAt 23 (.slice (some ⟨bb, ob, none⟩) b.length cb) (.int .i64 (i : Int))) w K = K (.pointer (some ⟨bb, ob + i, none⟩)) w := fun {w K} => by
        rw [o_index (by omega) (by omega), Int.toNat_natCast, Nat.mul_one]
      refine dr_sl h fun w h _ => ?_
      simp only [ix, iy, ↓o_nil, ↓o_field, ↓o_add, ↓o_sub, ↓o_mul, ↓o_lss, ↓o_leq, ↓o_gtr, ↓o_geq, ↓o_not, ↓o_pick, ↓o_eqInt, ↓o_neInt, ↓o_eqBool, ↓o_neBool, ↓o_eqPtr, ↓o_nePtr, ↓o_eqPtr', ↓o_eqSl, ↓o_neSl, ↓o_eqStr, ↓o_neStr, ↓o_len, ↓o_lenS, ↓o_min, ↓o_max, ↓o_extract, ↓o_convInt, ↓cd_true, ↓cd_false, ↓gate_tt, ↓gate_ff, ↓gate_tf, ↓gate_ft, ↓gate_undef, ↓o_bind, ↓stay_v, ↓pop_cons, ↓fin_nil, Option.isNone_none, Option.isNone_some, Bool.not_true, Bool.not_false, Nat.zero_add, decide_true, decide_false, if_true, if_false, Bool.false_eq_true, ↓reduceIte]
      refine ld_rd h ha i rfl (getbv h1) ?_
      refine ld_rd h hb i rfl (getbv h2) ?_
      rw [show bv (a.getD i 0) = Value.int .u8 (a.getD i 0).toNat from rfl, show bv (b.getD i 0) = Value.int .u8 (b.getD i 0).toNat from rfl, o_neInt]
      have ha' : (a.map bv)[i]? = some (Value.int .u8 (a.getD i 0).toNat) := getbv h1
      have hb' : (b.map bv)[i]? = some (Value.int .u8 (b.getD i 0).toNat) := getbv h2
      rw [drop_getD h1, drop_getD h2] at hx
      by_cases he : a.getD i 0 = b.getD i 0
      · have f3 : ((a.getD i 0).toNat : Int) = (b.getD i 0).toNat := by rw [he]
        simp only [f3, ↓o_nil, ↓o_field, ↓o_add, ↓o_sub, ↓o_mul, ↓o_lss, ↓o_leq, ↓o_gtr, ↓o_geq, ↓o_not, ↓o_pick, ↓o_eqInt, ↓o_neInt, ↓o_eqBool, ↓o_neBool, ↓o_eqPtr, ↓o_nePtr, ↓o_eqPtr', ↓o_eqSl, ↓o_neSl, ↓o_eqStr, ↓o_neStr, ↓o_len, ↓o_lenS, ↓o_min, ↓o_max, ↓o_extract, ↓o_convInt, ↓cd_true, ↓cd_false, ↓gate_tt, ↓gate_ff, ↓gate_tf, ↓gate_ft, ↓gate_undef, ↓o_bind, ↓stay_v, ↓pop_cons, ↓fin_nil, Option.isNone_none, Option.isNone_some, Bool.not_true, Bool.not_false, Nat.zero_add, decide_true, decide_false, if_true, if_false, Bool.false_eq_true, ↓reduceIte]
        rw [i64_of (by omega) (by omega)]
        refine hag (a.length - (i + 1)) _ _ (by omega) ⟨i + 1, rfl, rfl, by omega, by omega, ?_, h⟩
        rw [hx, lexB, if_pos he]
      · have f3 : ¬ ((a.getD i 0).toNat : Int) = (b.getD i 0).toNat := fun h0 => he (UInt8.toNat_inj.1 (by omega))
        simp only [f3, ↓o_nil, ↓o_field, ↓o_add, ↓o_sub, ↓o_mul, ↓o_lss, ↓o_leq, ↓o_gtr, ↓o_geq, ↓o_not, ↓o_pick, ↓o_eqInt, ↓o_neInt, ↓o_eqBool, ↓o_neBool, ↓o_eqPtr, ↓o_nePtr, ↓o_eqPtr', ↓o_eqSl, ↓o_neSl, ↓o_eqStr, ↓o_neStr, ↓o_len, ↓o_lenS, ↓o_min, ↓o_max, ↓o_extract, ↓o_convInt, ↓cd_true, ↓cd_false, ↓gate_tt, ↓gate_ff, ↓gate_tf, ↓gate_ft, ↓gate_undef, ↓o_bind, ↓stay_v, ↓pop_cons, ↓fin_nil, Option.isNone_none, Option.isNone_some, Bool.not_true, Bool.not_false, Nat.zero_add, decide_true, decide_false, if_true, if_false, Bool.false_eq_true, ↓reduceIte]
        refine dr_sl h fun w h _ => ?_
        try simp only [ix, iy, ↓o_nil, ↓o_field, ↓o_add, ↓o_sub, ↓o_mul, ↓o_lss, ↓o_leq, ↓o_gtr, ↓o_geq, ↓o_not, ↓o_pick, ↓o_eqInt, ↓o_neInt, ↓o_eqBool, ↓o_neBool, ↓o_eqPtr, ↓o_nePtr, ↓o_eqPtr', ↓o_eqSl, ↓o_neSl, ↓o_eqStr, ↓o_neStr, ↓o_len, ↓o_lenS, ↓o_min, ↓o_max, ↓o_extract, ↓o_convInt, ↓cd_true, ↓cd_false, ↓gate_tt, ↓gate_ff, ↓gate_tf, ↓gate_ft, ↓gate_undef, ↓o_bind, ↓stay_v, ↓pop_cons, ↓fin_nil, Option.isNone_none, Option.isNone_some, Bool.not_true, Bool.not_false, Nat.zero_add, decide_true, decide_false, if_true, if_false, Bool.false_eq_true, ↓reduceIte]
        refine ld_rd h ha i rfl ha' ?_
        refine ld_rd h hb i rfl hb' ?_
        rw [o_lss]
        rw [lexB, if_neg he] at hx
        have e : decide (((a.getD i 0).toNat : Int) < (b.getD i 0).toNat) = decide (a.getD i 0 < b.getD i 0) := by
          rw [decide_eq_decide, UInt8.lt_iff_toNat_lt]; omega
        rw [e, ← hx]
        exact k _ h
    · have f2 : ¬ (i : Int) < b.length := by omega
      simp only [f2, ↓o_nil, ↓o_field, ↓o_add, ↓o_sub, ↓o_mul, ↓o_lss, ↓o_leq, ↓o_gtr, ↓o_geq, ↓o_not, ↓o_pick, ↓o_eqInt, ↓o_neInt, ↓o_eqBool, ↓o_neBool, ↓o_eqPtr, ↓o_nePtr, ↓o_eqPtr', ↓o_eqSl, ↓o_neSl, ↓o_eqStr, ↓o_neStr, ↓o_len, ↓o_lenS, ↓o_min, ↓o_max, ↓o_extract, ↓o_convInt, ↓cd_true, ↓cd_false, ↓gate_tt, ↓gate_ff, ↓gate_tf, ↓gate_ft, ↓gate_undef, ↓o_bind, ↓stay_v, ↓pop_cons, ↓fin_nil, Option.isNone_none, Option.isNone_some, Bool.not_true, Bool.not_false, Nat.zero_add, decide_true, decide_false, if_true, if_false, Bool.false_eq_true, ↓reduceIte]
      exact done (.inr (by omega))
  · have f1 : ¬ (i : Int) < a.length := by omega
    simp only [f1, ↓o_nil, ↓o_field, ↓o_add, ↓o_sub, ↓o_mul, ↓o_lss, ↓o_leq, ↓o_gtr, ↓o_geq, ↓o_not, ↓o_pick, ↓o_eqInt, ↓o_neInt, ↓o_eqBool, ↓o_neBool, ↓o_eqPtr, ↓o_nePtr, ↓o_eqPtr', ↓o_eqSl, ↓o_neSl, ↓o_eqStr, ↓o_neStr, ↓o_len, ↓o_lenS, ↓o_min, ↓o_max, ↓o_extract, ↓o_convInt, ↓cd_true, ↓cd_false, ↓gate_tt, ↓gate_ff, ↓gate_tf, ↓gate_ft, ↓gate_undef, ↓o_bind, ↓stay_v, ↓pop_cons, ↓fin_nil, Option.isNone_none, Option.isNone_some, Bool.not_true, Bool.not_false, Nat.zero_add, decide_true, decide_false, if_true, if_false, Bool.false_eq_true, ↓reduceIte]
    exact done (.inl (by omega))
/-- The order of rows of texts. -/
def lexT : List (List UInt8) → List (List UInt8) → Bool
  | [], [] => false
  | [], _ :: _ => true
  | _ :: _, [] => false
  | a :: l, b :: m => if a = b then lexT l m else lexB a b
theorem lexT_short {a b : List (List UInt8)} {i : Nat} (h : a.length ≤ i ∨ b.length ≤ i) (ha : i ≤ a.length) (hb : i ≤ b.length) : lexT (a.drop i) (b.drop i) = decide (a.length < b.length) := by
  by_cases h1 : a.length ≤ i
  · rw [List.drop_eq_nil_of_le h1]
    cases hd : b.drop i with
    | nil =>
      have := congrArg List.length hd
      simp at this
      rw [show decide (a.length < b.length) = false by simp; omega]; rfl
    | cons c t =>
      have := congrArg List.length hd
      simp at this
      rw [show decide (a.length < b.length) = true by simp; omega]; rfl
  · have h2 : b.length ≤ i := by omega
    rw [List.drop_eq_nil_of_le h2]
    cases hd : a.drop i with
    | nil =>
      have := congrArg List.length hd
      simp at this; omega
    | cons c t =>
      rw [show decide (a.length < b.length) = false by simp; omega]; rfl
theorem before_spec (h : sat E w H) {v u : Value} {a b : List (List UInt8)} (ha : Rds H v a.length (a.map tv)) (hb : Rds H u b.length (b.map tv)) (hl : a.length ≤ 9223372036854775000) (k : ∀ w', sat E w' H → K (.bool (lexT a b)) w') : Calls prog 14 #[v, u] w (Ret K) := by
  obtain ⟨pa, ca, rfl, hca, ha, hna⟩ := ha.shape h
  obtain ⟨pb, cb, rfl, hcb, hb, hnb⟩ := hb.shape h
  refine c14 ?_
  unfold B14
  refine lp_nat (fun q σ w => ∃ i : Nat, σ = [.int .i64 (i : Int)] ∧ q = a.length - i ∧ i ≤ a.length ∧ i ≤ b.length ∧ lexT a b = lexT (a.drop i) (b.drop i) ∧ sat E w H) a.length ⟨0, rfl, rfl, by omega, by omega, rfl, h⟩ ?_
  clear h
  rintro q σ w again ⟨i, rfl, rfl, hi, hj, hx, h⟩ hag
  have done : (a.length ≤ i ∨ b.length ≤ i) → K (.bool (decide ((a.length : Int) < b.length))) w := fun hd => by
    rw [lexT_short hd hi hj] at hx
    have e : decide ((a.length : Int) < b.length) = decide (a.length < b.length) := by simp
    rw [e, ← hx]
    exact k _ h
  rw [pop_cons, fin_nil, o_len, o_lss]
  by_cases h1 : i < a.length
  · have f1 : (i : Int) < a.length := by omega
    simp only [f1, ↓o_nil, ↓o_field, ↓o_add, ↓o_sub, ↓o_mul, ↓o_lss, ↓o_leq, ↓o_gtr, ↓o_geq, ↓o_not, ↓o_pick, ↓o_eqInt, ↓o_neInt, ↓o_eqBool, ↓o_neBool, ↓o_eqPtr, ↓o_nePtr, ↓o_eqPtr', ↓o_eqSl, ↓o_neSl, ↓o_eqStr, ↓o_neStr, ↓o_len, ↓o_lenS, ↓o_min, ↓o_max, ↓o_extract, ↓o_convInt, ↓cd_true, ↓cd_false, ↓gate_tt, ↓gate_ff, ↓gate_tf, ↓gate_ft, ↓gate_undef, ↓o_bind, ↓stay_v, ↓pop_cons, ↓fin_nil, Option.isNone_none, Option.isNone_some, Bool.not_true, Bool.not_false, Nat.zero_add, decide_true, decide_false, if_true, if_false, Bool.false_eq_true, ↓reduceIte]
    by_cases h2 : i < b.length
    · have f2 : (i : Int) < b.length := by omega
      simp only [f2, ↓o_nil, ↓o_field, ↓o_add, ↓o_sub, ↓o_mul, ↓o_lss, ↓o_leq, ↓o_gtr, ↓o_geq, ↓o_not, ↓o_pick, ↓o_eqInt, ↓o_neInt, ↓o_eqBool, ↓o_neBool, ↓o_eqPtr, ↓o_nePtr, ↓o_eqPtr', ↓o_eqSl, ↓o_neSl, ↓o_eqStr, ↓o_neStr, ↓o_len, ↓o_lenS, ↓o_min, ↓o_max, ↓o_extract, ↓o_convInt, ↓cd_true, ↓cd_false, ↓gate_tt, ↓gate_ff, ↓gate_tf, ↓gate_ft, ↓gate_undef, ↓o_bind, ↓stay_v, ↓pop_cons, ↓fin_nil, Option.isNone_none, Option.isNone_some, Bool.not_true, Bool.not_false, Nat.zero_add, decide_true, decide_false, if_true, if_false, Bool.false_eq_true, ↓reduceIte]
      obtain ⟨ba, oa, _, e1, _, ha⟩ := ha.opened h (by simp; omega)
      cases e1
      obtain ⟨bb, ob, _, e1, _, hb⟩ := hb.opened h (by simp; omega)
      cases e1
      have ix : ∀ {w : World} {K : Value → World → Prop}, pvv prog (Instr.indexAt 22 (.slice (some ⟨ba, oa, none⟩) a.length ca) (.int .i64 (i : Int))) w K = K (.pointer (some ⟨ba, oa + i, none⟩)) w := fun {w K} => by
        rw [o_index (by omega) (by omega), Int.toNat_natCast, Nat.mul_one]
      have iy : ∀ {w : World} {K : Value → World → Prop}, pvv prog (Instr.indexAt 22 (.slice (some ⟨bb, ob, none⟩) b.length cb) (.int .i64 (i : Int))) w K = K (.pointer (some ⟨bb, ob + i, none⟩)) w := fun {w K} => by
        rw [o_index (by omega) (by omega), Int.toNat_natCast, Nat.mul_one]
      refine dr_sl h fun w h _ => ?_
      simp only [ix, iy, ↓o_nil, ↓o_field, ↓o_add, ↓o_sub, ↓o_mul, ↓o_lss, ↓o_leq, ↓o_gtr, ↓o_geq, ↓o_not, ↓o_pick, ↓o_eqInt, ↓o_neInt, ↓o_eqBool, ↓o_neBool, ↓o_eqPtr, ↓o_nePtr, ↓o_eqPtr', ↓o_eqSl, ↓o_neSl, ↓o_eqStr, ↓o_neStr, ↓o_len, ↓o_lenS, ↓o_min, ↓o_max, ↓o_extract, ↓o_convInt, ↓cd_true, ↓cd_false, ↓gate_tt, ↓gate_ff, ↓gate_tf, ↓gate_ft, ↓gate_undef, ↓o_bind, ↓stay_v, ↓pop_cons, ↓fin_nil, Option.isNone_none, Option.isNone_some, Bool.not_true, Bool.not_false, Nat.zero_add, decide_true, decide_false, if_true, if_false, Bool.false_eq_true, ↓reduceIte]
      refine ld_rd h ha i rfl (gettv h1) ?_
      refine ld_rd h hb i rfl (gettv h2) ?_
      rw [o_neT]
      rw [drop_getT h1, drop_getT h2] at hx
      by_cases he : a.getD i [] = b.getD i []
      · simp only [he, ↓o_nil, ↓o_field, ↓o_add, ↓o_sub, ↓o_mul, ↓o_lss, ↓o_leq, ↓o_gtr, ↓o_geq, ↓o_not, ↓o_pick, ↓o_eqInt, ↓o_neInt, ↓o_eqBool, ↓o_neBool, ↓o_eqPtr, ↓o_nePtr, ↓o_eqPtr', ↓o_eqSl, ↓o_neSl, ↓o_eqStr, ↓o_neStr, ↓o_len, ↓o_lenS, ↓o_min, ↓o_max, ↓o_extract, ↓o_convInt, ↓cd_true, ↓cd_false, ↓gate_tt, ↓gate_ff, ↓gate_tf, ↓gate_ft, ↓gate_undef, ↓o_bind, ↓stay_v, ↓pop_cons, ↓fin_nil, Option.isNone_none, Option.isNone_some, Bool.not_true, Bool.not_false, Nat.zero_add, decide_true, decide_false, if_true, if_false, Bool.false_eq_true, ↓reduceIte]
        rw [i64_of (by omega) (by omega)]
        refine hag (a.length - (i + 1)) _ _ (by omega) ⟨i + 1, rfl, rfl, by omega, by omega, ?_, h⟩
        rw [hx, lexT, if_pos he]
      · simp only [he, ↓o_nil, ↓o_field, ↓o_add, ↓o_sub, ↓o_mul, ↓o_lss, ↓o_leq, ↓o_gtr, ↓o_geq, ↓o_not, ↓o_pick, ↓o_eqInt, ↓o_neInt, ↓o_eqBool, ↓o_neBool, ↓o_eqPtr, ↓o_nePtr, ↓o_eqPtr', ↓o_eqSl, ↓o_neSl, ↓o_eqStr, ↓o_neStr, ↓o_len, ↓o_lenS, ↓o_min, ↓o_max, ↓o_extract, ↓o_convInt, ↓cd_true, ↓cd_false, ↓gate_tt, ↓gate_ff, ↓gate_tf, ↓gate_ft, ↓gate_undef, ↓o_bind, ↓stay_v, ↓pop_cons, ↓fin_nil, Option.isNone_none, Option.isNone_some, Bool.not_true, Bool.not_false, Nat.zero_add, decide_true, decide_false, if_true, if_false, Bool.false_eq_true, ↓reduceIte]
        refine dr_sl h fun w h _ => ?_
        try simp only [ix, iy, ↓o_nil, ↓o_field, ↓o_add, ↓o_sub, ↓o_mul, ↓o_lss, ↓o_leq, ↓o_gtr, ↓o_geq, ↓o_not, ↓o_pick, ↓o_eqInt, ↓o_neInt, ↓o_eqBool, ↓o_neBool, ↓o_eqPtr, ↓o_nePtr, ↓o_eqPtr', ↓o_eqSl, ↓o_neSl, ↓o_eqStr, ↓o_neStr, ↓o_len, ↓o_lenS, ↓o_min, ↓o_max, ↓o_extract, ↓o_convInt, ↓cd_true, ↓cd_false, ↓gate_tt, ↓gate_ff, ↓gate_tf, ↓gate_ft, ↓gate_undef, ↓o_bind, ↓stay_v, ↓pop_cons, ↓fin_nil, Option.isNone_none, Option.isNone_some, Bool.not_true, Bool.not_false, Nat.zero_add, decide_true, decide_false, if_true, if_false, Bool.false_eq_true, ↓reduceIte]
        refine ld_rd h ha i rfl (gettv h1) ?_
        refine ld_rd h hb i rfl (gettv h2) ?_
        rw [o_lssT]
        rw [lexT, if_neg he] at hx
        rw [← hx]
        exact k _ h
    · have f2 : ¬ (i : Int) < b.length := by omega
      simp only [f2, ↓o_nil, ↓o_field, ↓o_add, ↓o_sub, ↓o_mul, ↓o_lss, ↓o_leq, ↓o_gtr, ↓o_geq, ↓o_not, ↓o_pick, ↓o_eqInt, ↓o_neInt, ↓o_eqBool, ↓o_neBool, ↓o_eqPtr, ↓o_nePtr, ↓o_eqPtr', ↓o_eqSl, ↓o_neSl, ↓o_eqStr, ↓o_neStr, ↓o_len, ↓o_lenS, ↓o_min, ↓o_max, ↓o_extract, ↓o_convInt, ↓cd_true, ↓cd_false, ↓gate_tt, ↓gate_ff, ↓gate_tf, ↓gate_ft, ↓gate_undef, ↓o_bind, ↓stay_v, ↓pop_cons, ↓fin_nil, Option.isNone_none, Option.isNone_some, Bool.not_true, Bool.not_false, Nat.zero_add, decide_true, decide_false, if_true, if_false, Bool.false_eq_true, ↓reduceIte]
      exact done (.inr (by omega))
  · have f1 : ¬ (i : Int) < a.length := by omega
    simp only [f1, ↓o_nil, ↓o_field, ↓o_add, ↓o_sub, ↓o_mul, ↓o_lss, ↓o_leq, ↓o_gtr, ↓o_geq, ↓o_not, ↓o_pick, ↓o_eqInt, ↓o_neInt, ↓o_eqBool, ↓o_neBool, ↓o_eqPtr, ↓o_nePtr, ↓o_eqPtr', ↓o_eqSl, ↓o_neSl, ↓o_eqStr, ↓o_neStr, ↓o_len, ↓o_lenS, ↓o_min, ↓o_max, ↓o_extract, ↓o_convInt, ↓cd_true, ↓cd_false, ↓gate_tt, ↓gate_ff, ↓gate_tf, ↓gate_ft, ↓gate_undef, ↓o_bind, ↓stay_v, ↓pop_cons, ↓fin_nil, Option.isNone_none, Option.isNone_some, Bool.not_true, Bool.not_false, Nat.zero_add, decide_true, decide_false, if_true, if_false, Bool.false_eq_true, ↓reduceIte]
    exact done (.inl (by omega))
/-! The plain law. -/
theorem lex_part : ∀ (p q : List UInt8) (X Y : List UInt8), lexB (esc p ++ ([0, 1] ++ X)) (esc q ++ ([0, 1] ++ Y)) = if p = q then lexB X Y else lexB p q
  | [], [], X, Y => by simp [esc, lexB]
  | [], d :: q, X, Y => by
    by_cases hd : d = 0
    · subst hd; simp [esc, esc1, lexB]
    · have h0 : (0 : UInt8) < d := by
        rw [UInt8.lt_iff_toNat_lt]
        have : d.toNat ≠ 0 := fun h => hd (UInt8.toNat_inj.1 (by simpa using h))
        show 0 < d.toNat; omega
      have h1 : ¬ (0 = d) := fun h => hd h.symm
      simp [esc, esc1, hd, lexB, h0, h1]
  | c :: p, [], X, Y => by
    by_cases hc : c = 0
    · subst hc; simp [esc, esc1, lexB]
    · have h0 : ¬ c < (0 : UInt8) := by rw [UInt8.lt_iff_toNat_lt]; show ¬ c.toNat < 0; omega
      simp [esc, esc1, hc, lexB, h0]
  | c :: p, d :: q, X, Y => by
    have ih := lex_part p q X Y
    by_cases hcd : c = d
    · subst hcd
      have e : ∀ (p X : List UInt8), esc (c :: p) ++ X = esc1 c ++ (esc p ++ X) := fun p X => by simp [esc]
      have can : ∀ (z x y : List UInt8), lexB (z ++ x) (z ++ y) = lexB x y := fun z x y => by
        induction z with
        | nil => rfl
        | cons u z ih => simp [lexB, ih]
      rw [e, e, can, ih]
      by_cases hpq : p = q
      · subst hpq; simp
      · simp [hpq, lexB]
    · have hne : ¬ (c :: p = d :: q) := fun h => hcd (by simpa using (List.cons.inj h).1)
      rw [if_neg hne]
      by_cases hc : c = 0
      · subst hc
        have hd : ¬ d = 0 := fun h => hcd h.symm
        simp [esc, esc1, hd, lexB, hcd]
      · by_cases hd : d = 0
        · subst hd
          simp [esc, esc1, hc, lexB]
        · simp [esc, esc1, hc, hd, lexB, hcd]
theorem lex_enc : ∀ a b : List (List UInt8), lexB (enc a) (enc b) = lexT a b
  | [], [] => rfl
  | [], q :: b => by
    cases q with
    | nil => simp [enc, esc, lexB, lexT]
    | cons d q => unfold enc; simp [esc, esc1]; split <;> simp [lexB, lexT]
  | p :: a, [] => by
    cases p with
    | nil => simp [enc, esc, lexB, lexT]
    | cons d q => unfold enc; simp [esc, esc1]; split <;> simp [lexB, lexT]
  | p :: a, q :: b => by
    have ih := lex_enc a b
    have e : ∀ (p : List UInt8) (a : List (List UInt8)), enc (p :: a) = esc p ++ ([0, 1] ++ enc a) := fun p a => by simp [enc]
    rw [e, e, lex_part, ih]
    rfl
end Go.Proofs.YtnkmgkilfkgfhaaDoor
