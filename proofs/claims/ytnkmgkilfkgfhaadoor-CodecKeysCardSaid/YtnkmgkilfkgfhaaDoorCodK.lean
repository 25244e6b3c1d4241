/-
  Rows of columns: the code's and the reference's; columns of rows; what they say of each other.
-/
import Derived.Test.YtnkmgkilfkgfhaaDoorBack
set_option linter.all false
set_option maxRecDepth 10000
namespace Go.Proofs.YtnkmgkilfkgfhaaDoor
open Go Hold
variable {E : World0} {w : World} {H R : HP} {K : Value → World → Prop}
def col (c : List UInt8) : List UInt8 := UInt8.ofNat c.length :: c
def body (cs : List (List UInt8)) : List UInt8 := cs.flatMap col
def rowOut (cs : List (List UInt8)) : List UInt8 := UInt8.ofNat cs.length :: body cs
def row (cs : List (List UInt8)) : List UInt8 × Int :=
  if 8 < cs.length then ([], 2) else if cs.all (fun p => decide (p.length ≤ 70)) = true then (if 72 < (rowOut cs).length then ([], 6) else (rowOut cs, 0)) else ([], 6)
theorem body_append (a b : List (List UInt8)) : body (a ++ b) = body a ++ body b := by simp [body]
theorem body_take {ps : List (List UInt8)} {i : Nat} (h : i < ps.length) : body (ps.take (i + 1)) = body (ps.take i) ++ col (ps.getD i []) := by
  rw [List.take_succ_eq_append_getElem h, body_append]
  simp [body, List.getD_eq_getElem?_getD, h]
theorem body_short {ps : List (List UInt8)} : ∀ i, i ≤ ps.length → (∀ j, j < i → (ps.getD j []).length ≤ 70) → (body (ps.take i)).length ≤ 71 * i
  | 0, _, _ => by simp [body]
  | i + 1, h, hs => by
    have ih := body_short i (by omega) fun j hj => hs j (by omega)
    rw [body_take (by omega)]
    have h2 := hs i (by omega)
    simp only [List.length_append, col, List.length_cons]
    omega
theorem row_long {ps : List (List UInt8)} (h : ¬ 8 < ps.length) {i : Nat} (hi : i < ps.length) (hl : 70 < (ps.getD i []).length) : row ps = ([], 6) := by
  unfold row
  rw [if_neg h, if_neg]
  intro ha
  have := List.all_eq_true.1 ha (ps.getD i []) (by rw [List.getD_eq_getElem?_getD, List.getElem?_eq_getElem hi]; exact List.getElem_mem hi)
  have := of_decide_eq_true this
  omega
theorem all_short70 {ps : List (List UInt8)} (h : ∀ j, j < ps.length → (ps.getD j []).length ≤ 70) : ps.all (fun p => decide (p.length ≤ 70)) = true := by
  refine List.all_eq_true.2 fun p hp => ?_
  obtain ⟨i, hi, rfl⟩ := List.getElem_of_mem hp
  have := h i hi
  rw [List.getD_eq_getElem?_getD, List.getElem?_eq_getElem hi] at this
  simpa using this
theorem row_done {ps : List (List UInt8)} (h : ¬ 8 < ps.length) (hs : ∀ j, j < ps.length → (ps.getD j []).length ≤ 70) : row ps = if 72 < (rowOut ps).length then ([], 6) else (rowOut ps, 0) := by
  unfold row
  rw [if_neg h, if_pos (all_short70 hs)]
theorem bv_len {n : Nat} (h : n < 256) : Value.int .u8 (IntKind.u8.wrap (n : Int)) = bv (UInt8.ofNat n) := by
  unfold bv; rw [IntKind.wrap_u8]; congr 1
theorem Row_spec (h : sat E w H) {v : Value} {ps : List (List UInt8)} (hp : Rds H v ps.length (ps.map tv)) (hpl : ps.length ≤ 9223372036854775000) (k : back K E H (row ps)) : Calls prog 20 #[v] w (Ret K) := by
  obtain ⟨a, c, rfl, hc, hp, hpn⟩ := hp.shape h
  refine c20 ?_
  unfold B20
  rw [o_len, o_gtr]
  by_cases h2 : 8 < ps.length
  · have f2 : (8 : Int) < ps.length := by omega
    simp only [f2, ↓o_nil, ↓o_field, ↓o_add, ↓o_sub, ↓o_mul, ↓o_lss, ↓o_leq, ↓o_gtr, ↓o_geq, ↓o_not, ↓o_pick, ↓o_eqInt, ↓o_neInt, ↓o_eqBool, ↓o_neBool, ↓o_eqPtr, ↓o_nePtr, ↓o_eqPtr', ↓o_eqSl, ↓o_neSl, ↓o_eqStr, ↓o_neStr, ↓o_len, ↓o_lenS, ↓o_min, ↓o_max, ↓o_extract, ↓o_convInt, ↓cd_true, ↓cd_false, ↓gate_tt, ↓gate_ff, ↓gate_tf, ↓gate_ft, ↓gate_undef, ↓o_bind, ↓stay_v, ↓pop_cons, ↓fin_nil, Option.isNone_none, Option.isNone_some, Bool.not_true, Bool.not_false, Nat.zero_add, decide_true, decide_false, if_true, if_false, Bool.false_eq_true, ↓reduceIte]
    have e : row ps = ([], 2) := by unfold row; rw [if_pos h2]
    rw [e] at k
    exact back_nil h k
  have f2 : ¬ (8 : Int) < ps.length := by omega
  simp only [f2, ↓o_nil, ↓o_field, ↓o_add, ↓o_sub, ↓o_mul, ↓o_lss, ↓o_leq, ↓o_gtr, ↓o_geq, ↓o_not, ↓o_pick, ↓o_eqInt, ↓o_neInt, ↓o_eqBool, ↓o_neBool, ↓o_eqPtr, ↓o_nePtr, ↓o_eqPtr', ↓o_eqSl, ↓o_neSl, ↓o_eqStr, ↓o_neStr, ↓o_len, ↓o_lenS, ↓o_min, ↓o_max, ↓o_extract, ↓o_convInt, ↓cd_true, ↓cd_false, ↓gate_tt, ↓gate_ff, ↓gate_tf, ↓gate_ft, ↓gate_undef, ↓o_bind, ↓stay_v, ↓pop_cons, ↓fin_nil, Option.isNone_none, Option.isNone_some, Bool.not_true, Bool.not_false, Nat.zero_add, decide_true, decide_false, if_true, if_false, Bool.false_eq_true, ↓reduceIte, bv_len (show ps.length < 256 by omega)]
  refine buildSlice_sl (e := 5) (cs := #[bv (UInt8.ofNat ps.length)]) h (fun w => by kernel_rfl) fun b0 w h => ?_
  refine lp_nat (fun q σ w => ∃ (i : Nat) (v : Value), σ = [v, .int .i64 (i : Int)] ∧ q = ps.length - i ∧ i ≤ ps.length ∧ (∀ j, j < i → (ps.getD j []).length ≤ 70) ∧ sat E w (osl 5 1 v (1 + (body (ps.take i)).length) ((UInt8.ofNat ps.length :: body (ps.take i)).map bv) * H)) ps.length
    ⟨0, _, rfl, rfl, by omega, fun j hj => by omega, by
      have := osl_of (n := 1) (sz := 1) (xs := [bv (UInt8.ofNat ps.length)]) h rfl (by omega)
      simpa [body] using this⟩ ?_
  clear h
  rintro q σ w again ⟨i, v, rfl, rfl, hi, hs, h⟩ hag
  have hes := body_short i hi hs
  rw [pop_cons, pop_cons, fin_nil, o_lss]
  refine cd_dec (fun hlt => ?_) (fun hge => ?_)
  · have hlt : i < ps.length := by omega
    obtain ⟨bb, o, c', hv, _, hp⟩ := hp.opened h.drop (by simp; omega)
    cases hv
    rw [o_index (by omega) (by omega)]
    refine ld_rd h hp.right i (by rw [Int.toNat_natCast]; omega) (gettv hlt) ?_
    rw [o_lenT, o_gtr]
    by_cases h3 : 70 < (ps.getD i []).length
    · have f3 : (70 : Int) < (ps.getD i []).length := by omega
      simp only [f3, ↓o_nil, ↓o_field, ↓o_add, ↓o_sub, ↓o_mul, ↓o_lss, ↓o_leq, ↓o_gtr, ↓o_geq, ↓o_not, ↓o_pick, ↓o_eqInt, ↓o_neInt, ↓o_eqBool, ↓o_neBool, ↓o_eqPtr, ↓o_nePtr, ↓o_eqPtr', ↓o_eqSl, ↓o_neSl, ↓o_eqStr, ↓o_neStr, ↓o_len, ↓o_lenS, ↓o_min, ↓o_max, ↓o_extract, ↓o_convInt, ↓cd_true, ↓cd_false, ↓gate_tt, ↓gate_ff, ↓gate_tf, ↓gate_ft, ↓gate_undef, ↓o_bind, ↓stay_v, ↓pop_cons, ↓fin_nil, Option.isNone_none, Option.isNone_some, Bool.not_true, Bool.not_false, Nat.zero_add, decide_true, decide_false, if_true, if_false, Bool.false_eq_true, ↓reduceIte]
      rw [row_long h2 hlt h3] at k
      exact back_nil h.drop k
    · have f3 : ¬ (70 : Int) < (ps.getD i []).length := by omega
      simp only [f3, ↓o_lenT, ↓o_nil, ↓o_field, ↓o_add, ↓o_sub, ↓o_mul, ↓o_lss, ↓o_leq, ↓o_gtr, ↓o_geq, ↓o_not, ↓o_pick, ↓o_eqInt, ↓o_neInt, ↓o_eqBool, ↓o_neBool, ↓o_eqPtr, ↓o_nePtr, ↓o_eqPtr', ↓o_eqSl, ↓o_neSl, ↓o_eqStr, ↓o_neStr, ↓o_len, ↓o_lenS, ↓o_min, ↓o_max, ↓o_extract, ↓o_convInt, ↓cd_true, ↓cd_false, ↓gate_tt, ↓gate_ff, ↓gate_tf, ↓gate_ft, ↓gate_undef, ↓o_bind, ↓stay_v, ↓pop_cons, ↓fin_nil, Option.isNone_none, Option.isNone_some, Bool.not_true, Bool.not_false, Nat.zero_add, decide_true, decide_false, if_true, if_false, Bool.false_eq_true, ↓reduceIte, bv_len (show (ps.getD i []).length < 256 by omega)]
      refine push_sl (v := v) h rfl rfl (by omega) (by omega) fun v2 w h => ?_
      refine append_str (v := v2) h (by omega) fun v3 w h => ?_
      (try rw [o_add]); rw [i64_of (by omega) (by omega)]
      refine hag (ps.length - (i + 1)) _ _ (by omega) ⟨i + 1, v3, rfl, rfl, by omega, fun j hj => ?_, ?_⟩
      · by_cases c1 : j < i
        · exact hs j c1
        · rw [show j = i by omega]; omega
      · rw [body_take hlt]
        have e : (UInt8.ofNat ps.length :: body (ps.take i)).map bv ++ [bv (UInt8.ofNat (ps.getD i []).length)] ++ (ps.getD i []).map bv = (UInt8.ofNat ps.length :: (body (ps.take i) ++ col (ps.getD i []))).map bv := by simp [col]
        have e2 : 1 + (body (ps.take i)).length + 1 + (ps.getD i []).length = 1 + (body (ps.take i) ++ col (ps.getD i [])).length := by simp [col]; omega
        rw [e, e2] at h
        exact h
  · have hi2 : i = ps.length := by omega
    subst hi2
    rw [List.take_length] at h hes
    obtain ⟨a2, c2, rfl, _, _, _⟩ := osl_shape h
    (try rw [o_len]); (try rw [o_gtr])
    rw [row_done h2 hs] at k
    have hrl : (rowOut ps).length = 1 + (body ps).length := by simp [rowOut]; omega
    by_cases h4 : 72 < (rowOut ps).length
    · have f4 : (72 : Int) < ((1 + (body ps).length : Nat) : Int) := by omega
      simp only [f4, ↓o_nil, ↓o_field, ↓o_add, ↓o_sub, ↓o_mul, ↓o_lss, ↓o_leq, ↓o_gtr, ↓o_geq, ↓o_not, ↓o_pick, ↓o_eqInt, ↓o_neInt, ↓o_eqBool, ↓o_neBool, ↓o_eqPtr, ↓o_nePtr, ↓o_eqPtr', ↓o_eqSl, ↓o_neSl, ↓o_eqStr, ↓o_neStr, ↓o_len, ↓o_lenS, ↓o_min, ↓o_max, ↓o_extract, ↓o_convInt, ↓cd_true, ↓cd_false, ↓gate_tt, ↓gate_ff, ↓gate_tf, ↓gate_ft, ↓gate_undef, ↓o_bind, ↓stay_v, ↓pop_cons, ↓fin_nil, Option.isNone_none, Option.isNone_some, Bool.not_true, Bool.not_false, Nat.zero_add, decide_true, decide_false, if_true, if_false, Bool.false_eq_true, ↓reduceIte]
      rw [if_pos h4] at k
      exact back_nil h.drop k
    · have f4 : ¬ (72 : Int) < ((1 + (body ps).length : Nat) : Int) := by omega
      simp only [f4, ↓o_nil, ↓o_field, ↓o_add, ↓o_sub, ↓o_mul, ↓o_lss, ↓o_leq, ↓o_gtr, ↓o_geq, ↓o_not, ↓o_pick, ↓o_eqInt, ↓o_neInt, ↓o_eqBool, ↓o_neBool, ↓o_eqPtr, ↓o_nePtr, ↓o_eqPtr', ↓o_eqSl, ↓o_neSl, ↓o_eqStr, ↓o_neStr, ↓o_len, ↓o_lenS, ↓o_min, ↓o_max, ↓o_extract, ↓o_convInt, ↓cd_true, ↓cd_false, ↓gate_tt, ↓gate_ff, ↓gate_tf, ↓gate_ft, ↓gate_undef, ↓o_bind, ↓stay_v, ↓pop_cons, ↓fin_nil, Option.isNone_none, Option.isNone_some, Bool.not_true, Bool.not_false, Nat.zero_add, decide_true, decide_false, if_true, if_false, Bool.false_eq_true, ↓reduceIte]
      rw [if_neg h4] at k
      refine k _ _ ?_
      rw [hrl]
      exact h
theorem RRow_spec (h : sat E w H) {v : Value} {ps : List (List UInt8)} (hp : Rds H v ps.length (ps.map tv)) (hpl : ps.length ≤ 9223372036854775000) (k : back K E H (row ps)) : Calls prog 21 #[v] w (Ret K) := by
  obtain ⟨a, c, rfl, hc, hp, hpn⟩ := hp.shape h
  refine c21 ?_
  unfold B21
  rw [o_len, o_gtr]
  by_cases h2 : 8 < ps.length
  · have f2 : (8 : Int) < ps.length := by omega
    simp only [f2, ↓o_nil, ↓o_field, ↓o_add, ↓o_sub, ↓o_mul, ↓o_lss, ↓o_leq, ↓o_gtr, ↓o_geq, ↓o_not, ↓o_pick, ↓o_eqInt, ↓o_neInt, ↓o_eqBool, ↓o_neBool, ↓o_eqPtr, ↓o_nePtr, ↓o_eqPtr', ↓o_eqSl, ↓o_neSl, ↓o_eqStr, ↓o_neStr, ↓o_len, ↓o_lenS, ↓o_min, ↓o_max, ↓o_extract, ↓o_convInt, ↓cd_true, ↓cd_false, ↓gate_tt, ↓gate_ff, ↓gate_tf, ↓gate_ft, ↓gate_undef, ↓o_bind, ↓stay_v, ↓pop_cons, ↓fin_nil, Option.isNone_none, Option.isNone_some, Bool.not_true, Bool.not_false, Nat.zero_add, decide_true, decide_false, if_true, if_false, Bool.false_eq_true, ↓reduceIte]
    have e : row ps = ([], 2) := by unfold row; rw [if_pos h2]
    rw [e] at k
    exact back_nil h k
  have f2 : ¬ (8 : Int) < ps.length := by omega
  simp only [f2, ↓o_nil, ↓o_field, ↓o_add, ↓o_sub, ↓o_mul, ↓o_lss, ↓o_leq, ↓o_gtr, ↓o_geq, ↓o_not, ↓o_pick, ↓o_eqInt, ↓o_neInt, ↓o_eqBool, ↓o_neBool, ↓o_eqPtr, ↓o_nePtr, ↓o_eqPtr', ↓o_eqSl, ↓o_neSl, ↓o_eqStr, ↓o_neStr, ↓o_len, ↓o_lenS, ↓o_min, ↓o_max, ↓o_extract, ↓o_convInt, ↓cd_true, ↓cd_false, ↓gate_tt, ↓gate_ff, ↓gate_tf, ↓gate_ft, ↓gate_undef, ↓o_bind, ↓stay_v, ↓pop_cons, ↓fin_nil, Option.isNone_none, Option.isNone_some, Bool.not_true, Bool.not_false, Nat.zero_add, decide_true, decide_false, if_true, if_false, Bool.false_eq_true, ↓reduceIte, bv_len (show ps.length < 256 by omega)]
  refine buildSlice_sl (e := 5) (cs := #[bv (UInt8.ofNat ps.length)]) h (fun w => by kernel_rfl) fun b0 w h => ?_
  refine lp_nat (fun q σ w => ∃ (i : Nat) (v : Value), σ = [v, .int .i64 (i : Int)] ∧ q = ps.length - i ∧ i ≤ ps.length ∧ (∀ j, j < i → (ps.getD j []).length ≤ 70) ∧ sat E w (osl 5 1 v (1 + (body (ps.take i)).length) ((UInt8.ofNat ps.length :: body (ps.take i)).map bv) * H)) ps.length
    ⟨0, _, rfl, rfl, by omega, fun j hj => by omega, by
      have := osl_of (n := 1) (sz := 1) (xs := [bv (UInt8.ofNat ps.length)]) h rfl (by omega)
      simpa [body] using this⟩ ?_
  clear h
  rintro q σ w again ⟨i, v, rfl, rfl, hi, hs, h⟩ hag
  have hes := body_short i hi hs
  rw [pop_cons, pop_cons, fin_nil]
  (try rw [o_len]); rw [o_lss]
  refine cd_dec (fun hlt => ?_) (fun hge => ?_)
  · have hlt : i < ps.length := by omega
    obtain ⟨bb, o, c', hv, _, hp⟩ := hp.opened h.drop (by simp; omega)
    cases hv
    have ix : ∀ {w : World} {K : Value → World → Prop}, pvv prog (Instr.indexAt 22 (.slice (some ⟨bb, o, none⟩) ps.length c) (.int .i64 (i : Int))) w K = K (.pointer (some ⟨bb, o + i, none⟩)) w := fun {w K} => by
      rw [o_index (by omega) (by omega), Int.toNat_natCast, Nat.mul_one]
    rw [ix]
    refine ld_rd h hp.right i rfl (gettv hlt) ?_
    rw [o_lenT, o_gtr]
    by_cases h3 : 70 < (ps.getD i []).length
    · have f3 : (70 : Int) < (ps.getD i []).length := by omega
      simp only [f3, ↓o_nil, ↓o_field, ↓o_add, ↓o_sub, ↓o_mul, ↓o_lss, ↓o_leq, ↓o_gtr, ↓o_geq, ↓o_not, ↓o_pick, ↓o_eqInt, ↓o_neInt, ↓o_eqBool, ↓o_neBool, ↓o_eqPtr, ↓o_nePtr, ↓o_eqPtr', ↓o_eqSl, ↓o_neSl, ↓o_eqStr, ↓o_neStr, ↓o_len, ↓o_lenS, ↓o_min, ↓o_max, ↓o_extract, ↓o_convInt, ↓cd_true, ↓cd_false, ↓gate_tt, ↓gate_ff, ↓gate_tf, ↓gate_ft, ↓gate_undef, ↓o_bind, ↓stay_v, ↓pop_cons, ↓fin_nil, Option.isNone_none, Option.isNone_some, Bool.not_true, Bool.not_false, Nat.zero_add, decide_true, decide_false, if_true, if_false, Bool.false_eq_true, ↓reduceIte]
      rw [row_long h2 hlt h3] at k
      exact back_nil h.drop k
    · have f3 : ¬ (70 : Int) < (ps.getD i []).length := by omega
      simp only [f3, ix, ↓o_nil, ↓o_field, ↓o_add, ↓o_sub, ↓o_mul, ↓o_lss, ↓o_leq, ↓o_gtr, ↓o_geq, ↓o_not, ↓o_pick, ↓o_eqInt, ↓o_neInt, ↓o_eqBool, ↓o_neBool, ↓o_eqPtr, ↓o_nePtr, ↓o_eqPtr', ↓o_eqSl, ↓o_neSl, ↓o_eqStr, ↓o_neStr, ↓o_len, ↓o_lenS, ↓o_min, ↓o_max, ↓o_extract, ↓o_convInt, ↓cd_true, ↓cd_false, ↓gate_tt, ↓gate_ff, ↓gate_tf, ↓gate_ft, ↓gate_undef, ↓o_bind, ↓stay_v, ↓pop_cons, ↓fin_nil, Option.isNone_none, Option.isNone_some, Bool.not_true, Bool.not_false, Nat.zero_add, decide_true, decide_false, if_true, if_false, Bool.false_eq_true, ↓reduceIte]
      refine ld_rd h hp.right i rfl (gettv hlt) ?_
      rw [o_lenT, o_convInt, bv_len (show (ps.getD i []).length < 256 by omega)]
      refine push_sl (v := v) h rfl rfl (by omega) (by omega) fun v2 w h => ?_
      try rw [ix]
      refine ld_rd h hp.right i rfl (gettv hlt) ?_
      refine append_str (v := v2) h (by omega) fun v3 w h => ?_
      (try rw [o_add]); rw [i64_of (by omega) (by omega)]
      refine hag (ps.length - (i + 1)) _ _ (by omega) ⟨i + 1, v3, rfl, rfl, by omega, fun j hj => ?_, ?_⟩
      · by_cases c1 : j < i
        · exact hs j c1
        · rw [show j = i by omega]; omega
      · rw [body_take hlt]
        have e : (UInt8.ofNat ps.length :: body (ps.take i)).map bv ++ [bv (UInt8.ofNat (ps.getD i []).length)] ++ (ps.getD i []).map bv = (UInt8.ofNat ps.length :: (body (ps.take i) ++ col (ps.getD i []))).map bv := by simp [col]
        have e2 : 1 + (body (ps.take i)).length + 1 + (ps.getD i []).length = 1 + (body (ps.take i) ++ col (ps.getD i [])).length := by simp [col]; omega
        rw [e, e2] at h
        exact h
  · have hi2 : i = ps.length := by omega
    subst hi2
    rw [List.take_length] at h hes
    obtain ⟨a2, c2, rfl, _, _, _⟩ := osl_shape h
    (try rw [o_len]); (try rw [o_gtr])
    rw [row_done h2 hs] at k
    have hrl : (rowOut ps).length = 1 + (body ps).length := by simp [rowOut]; omega
    by_cases h4 : 72 < (rowOut ps).length
    · have f4 : (72 : Int) < ((1 + (body ps).length : Nat) : Int) := by omega
      simp only [f4, ↓o_nil, ↓o_field, ↓o_add, ↓o_sub, ↓o_mul, ↓o_lss, ↓o_leq, ↓o_gtr, ↓o_geq, ↓o_not, ↓o_pick, ↓o_eqInt, ↓o_neInt, ↓o_eqBool, ↓o_neBool, ↓o_eqPtr, ↓o_nePtr, ↓o_eqPtr', ↓o_eqSl, ↓o_neSl, ↓o_eqStr, ↓o_neStr, ↓o_len, ↓o_lenS, ↓o_min, ↓o_max, ↓o_extract, ↓o_convInt, ↓cd_true, ↓cd_false, ↓gate_tt, ↓gate_ff, ↓gate_tf, ↓gate_ft, ↓gate_undef, ↓o_bind, ↓stay_v, ↓pop_cons, ↓fin_nil, Option.isNone_none, Option.isNone_some, Bool.not_true, Bool.not_false, Nat.zero_add, decide_true, decide_false, if_true, if_false, Bool.false_eq_true, ↓reduceIte]
      rw [if_pos h4] at k
      exact back_nil h.drop k
    · have f4 : ¬ (72 : Int) < ((1 + (body ps).length : Nat) : Int) := by omega
      simp only [f4, ↓o_nil, ↓o_field, ↓o_add, ↓o_sub, ↓o_mul, ↓o_lss, ↓o_leq, ↓o_gtr, ↓o_geq, ↓o_not, ↓o_pick, ↓o_eqInt, ↓o_neInt, ↓o_eqBool, ↓o_neBool, ↓o_eqPtr, ↓o_nePtr, ↓o_eqPtr', ↓o_eqSl, ↓o_neSl, ↓o_eqStr, ↓o_neStr, ↓o_len, ↓o_lenS, ↓o_min, ↓o_max, ↓o_extract, ↓o_convInt, ↓cd_true, ↓cd_false, ↓gate_tt, ↓gate_ff, ↓gate_tf, ↓gate_ft, ↓gate_undef, ↓o_bind, ↓stay_v, ↓pop_cons, ↓fin_nil, Option.isNone_none, Option.isNone_some, Bool.not_true, Bool.not_false, Nat.zero_add, decide_true, decide_false, if_true, if_false, Bool.false_eq_true, ↓reduceIte]
      rw [if_neg h4] at k
      refine k _ _ ?_
      rw [hrl]
      exact h
/-! Columns. -/
def colsGo : Nat → List UInt8 → Option (List (List UInt8))
  | 0, [] => some []
  | 0, _ :: _ => none
  | _ + 1, [] => none
  | n + 1, k :: b => if 70 < k.toNat ∨ b.length < k.toNat then none else (colsGo n (b.drop k.toNat)).map (b.take k.toNat :: ·)
def columns (b : List UInt8) : List (List UInt8) × Int :=
  if 72 < b.length then ([], 6) else match b with
    | [] => ([], 3)
    | n :: r => if 8 < n.toNat then ([], 3) else match colsGo n.toNat r with | some cs => (cs, 0) | none => ([], 3)
theorem colsGo_body : ∀ {cs : List (List UInt8)}, (∀ c ∈ cs, c.length ≤ 70) → colsGo cs.length (body cs) = some cs
  | [], _ => rfl
  | c :: cs, h => by
    have hc := h c (by simp)
    have ih := colsGo_body (cs := cs) fun x hx => h x (by simp [hx])
    have e : body (c :: cs) = UInt8.ofNat c.length :: (c ++ body cs) := by simp [body, col]
    have e2 : (UInt8.ofNat c.length).toNat = c.length := by rw [UInt8.toNat_ofNat']; omega
    rw [e]
    simp only [List.length_cons, colsGo, e2]
    rw [if_neg (by simp; omega), List.drop_left, List.take_left, ih]
    rfl
theorem colsGo_some : ∀ {n : Nat} {b : List UInt8} {cs : List (List UInt8)}, colsGo n b = some cs → cs.length = n ∧ (∀ c ∈ cs, c.length ≤ 70) ∧ b = body cs
  | 0, [], cs, h => by simp [colsGo] at h; subst h; simp [body]
  | 0, _ :: _, cs, h => by simp [colsGo] at h
  | n + 1, [], cs, h => by simp [colsGo] at h
  | n + 1, k :: b, cs, h => by
    unfold colsGo at h
    split at h
    · cases h
    · rename_i h1
      rw [Option.map_eq_some_iff] at h
      obtain ⟨l, hl, rfl⟩ := h
      obtain ⟨i1, i2, i3⟩ := colsGo_some hl
      have hkl : (b.take k.toNat).length = k.toNat := by simp; omega
      refine ⟨by simp [i1], ?_, ?_⟩
      · intro c hc
        rcases List.mem_cons.1 hc with rfl | hc
        · omega
        · exact i2 c hc
      · have e : body (b.take k.toNat :: l) = UInt8.ofNat (b.take k.toNat).length :: (b.take k.toNat ++ body l) := by simp [body, col]
        rw [e, hkl, ← i3, List.take_append_drop]
        simp
theorem colsGo_more : ∀ {n : Nat} {b : List UInt8} {cs : List (List UInt8)} {y : List UInt8}, colsGo n b = some cs → y ≠ [] → colsGo n (b ++ y) = none
  | 0, [], cs, y, h, hy => by
    cases y with
    | nil => exact absurd rfl hy
    | cons c y => rfl
  | 0, _ :: _, cs, y, h, hy => by simp [colsGo] at h
  | n + 1, [], cs, y, h, hy => by simp [colsGo] at h
  | n + 1, k :: b, cs, y, h, hy => by
    unfold colsGo at h
    split at h
    · cases h
    · rename_i h1
      rw [Option.map_eq_some_iff] at h
      obtain ⟨l, hl, rfl⟩ := h
      have ih := colsGo_more hl hy
      simp only [List.cons_append, colsGo]
      rw [if_neg (by simp; omega), List.drop_append_of_le_length (by omega), ih]
      rfl
theorem row_ok {cs : List (List UInt8)} (h : (row cs).2 = 0) : cs.length ≤ 8 ∧ (∀ c ∈ cs, c.length ≤ 70) ∧ (row cs).1 = rowOut cs ∧ (rowOut cs).length ≤ 72 := by
  unfold row at h ⊢
  split at h
  · cases h
  · rename_i h1
    rw [if_neg h1]
    split at h
    · rename_i h2
      rw [if_pos h2]
      split at h
      · cases h
      · rename_i h3
        rw [if_neg h3]
        refine ⟨by omega, fun c hc => ?_, rfl, by omega⟩
        simpa using List.all_eq_true.1 h2 c hc
    · cases h
theorem columns_row {cs : List (List UInt8)} (h : (row cs).2 = 0) : columns (row cs).1 = (cs, 0) := by
  obtain ⟨h1, h2, h3, h4⟩ := row_ok h
  rw [h3]
  have e : (UInt8.ofNat cs.length).toNat = cs.length := by rw [UInt8.toNat_ofNat']; omega
  have hg := colsGo_body h2
  unfold columns
  rw [if_neg (by omega)]
  unfold rowOut
  simp only [e, hg]
  rw [if_neg (by omega)]
theorem row_columns {b : List UInt8} (h : (columns b).2 = 0) : row (columns b).1 = (b, 0) := by
  unfold columns at h ⊢
  split at h
  · cases h
  · rename_i h1
    rw [if_neg h1]
    split at h
    · cases h
    · rename_i n r
      split at h
      · cases h
      · rename_i h2
        rw [if_neg h2]
        split at h
        · rename_i cs hcs
          obtain ⟨i1, i2, i3⟩ := colsGo_some hcs
          have e : rowOut cs = n :: r := by
            unfold rowOut
            rw [i1, ← i3]; simp
          simp only [hcs]
          unfold row
          rw [if_neg (by omega), if_pos (by refine List.all_eq_true.2 fun c hc => ?_; simpa using i2 c hc), e, if_neg h1]
        · cases h
/-- A row that is cut is none; nor is one that goes on. -/
theorem row_cut {cs : List (List UInt8)} (h : (row cs).2 = 0) {m : Nat} (hm : m < (rowOut cs).length) : (columns ((rowOut cs).take m)).2 = 3 := by
  obtain ⟨h1, h2, h3, h4⟩ := row_ok h
  have e : (UInt8.ofNat cs.length).toNat = cs.length := by rw [UInt8.toNat_ofNat']; omega
  have hg := colsGo_body h2
  unfold columns
  rw [if_neg (by simp; omega)]
  unfold rowOut at hm ⊢
  cases m with
  | zero => rfl
  | succ m =>
    rw [List.take_succ_cons]
    simp only [e]
    rw [if_neg (by omega)]
    split
    · rename_i l hl
      exfalso
      have hne : (body cs).drop m ≠ [] := by
        intro h0
        have := congrArg List.length h0
        simp at this hm
        omega
      have := colsGo_more hl hne
      rw [List.take_append_drop, hg] at this
      cases this
    · rfl
theorem row_on {cs : List (List UInt8)} (h : (row cs).2 = 0) (k : UInt8) : (columns (rowOut cs ++ [k])).2 = 3 ∨ (columns (rowOut cs ++ [k])).2 = 6 ∧ (rowOut cs).length = 72 := by
  obtain ⟨h1, h2, h3, h4⟩ := row_ok h
  have e : (UInt8.ofNat cs.length).toNat = cs.length := by rw [UInt8.toNat_ofNat']; omega
  have hg := colsGo_body h2
  by_cases h5 : (rowOut cs).length = 72
  · right
    refine ⟨?_, h5⟩
    unfold columns
    rw [if_pos (by simp; omega)]
  · left
    unfold columns
    rw [if_neg (by simp; omega)]
    unfold rowOut
    simp only [List.cons_append, e]
    rw [if_neg (by omega), colsGo_more hg (by simp)]
end Go.Proofs.YtnkmgkilfkgfhaaDoor
