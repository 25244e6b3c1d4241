/-
  TopBlocks: what is written as a row in a block is read as that row behind any cut that has the write: for every columns, bytes and place the law returns true.
-/
import Derived.Test.YteplajobjlehlaaBlkP
import Derived.Test.YteplajobjlehlaaBlkV
import Derived.Test.YteplajobjlehlaaStr
import Derived.Test.YteplajobjlehlaaLaw
import Derived.Test.YteplajobjlehlaaArgs
import Derived.Test.YteplajobjlehlaaRows
set_option linter.all false
set_option maxRecDepth 100000
namespace Go.Proofs.Yteplajobjlehlaa.Top
open Go Hold Go.ChangeShapes Go.WideShapes Go.ChangeAt Go.RowKit
variable {E : World0} {w : World} {H R : HP} {K : Value → World → Prop}

/-- The bytes of a row of columns. -/
def colB (cs : List (List UInt8)) : List UInt8 := cs.flatMap fun c => UInt8.ofNat c.length :: c
def rowB (cs : List (List UInt8)) : List UInt8 := UInt8.ofNat cs.length :: colB cs
/-- .. and what columns bytes are. -/
def dec : Nat → List UInt8 → Option (List (List UInt8))
  | 0, [] => some []
  | 0, _ :: _ => none
  | _ + 1, [] => none
  | n + 1, x :: r => if x.toNat ≤ 70 ∧ x.toNat ≤ r.length then (dec n (r.drop x.toNat)).map (r.take x.toNat :: ·) else none
def cols (l : List UInt8) : Option (List (List UInt8)) :=
  if 72 < l.length then none else match l with | [] => none | x :: r => if x.toNat ≤ 8 then dec x.toNat r else none

theorem colB_length (cs : List (List UInt8)) (c : List UInt8) : (colB (cs ++ [c])).length = (colB cs).length + 1 + c.length := by simp [colB]; omega
theorem colB_snoc (cs : List (List UInt8)) (c : List UInt8) : colB (cs ++ [c]) = colB cs ++ (UInt8.ofNat c.length :: c) := by simp [colB]
theorem dec_colB : ∀ (cs : List (List UInt8)), (∀ c ∈ cs, c.length ≤ 70) → dec cs.length (colB cs) = some cs
  | [], _ => rfl
  | c :: cs, h => by
    have h1 := h c (by simp)
    have ih := dec_colB cs (fun d hd => h d (List.mem_cons_of_mem _ hd))
    have e1 : (UInt8.ofNat c.length).toNat = c.length := by simp; omega
    have e : colB (c :: cs) = UInt8.ofNat c.length :: (c ++ colB cs) := by simp [colB]
    rw [e]
    simp only [List.length_cons, dec, e1]
    rw [if_pos ⟨h1, by simp⟩]
    simp [ih]
theorem cols_rowB (cs : List (List UInt8)) (h8 : cs.length ≤ 8) (h70 : ∀ c ∈ cs, c.length ≤ 70) (h72 : (rowB cs).length ≤ 72) : cols (rowB cs) = some cs := by
  have e1 : (UInt8.ofNat cs.length).toNat = cs.length := by simp; omega
  unfold cols
  rw [if_neg (by omega)]
  simp only [rowB, e1]
  rw [if_pos h8, dec_colB cs h70]

theorem bv_ofNat (n : Nat) (h : n < 256) : Value.int .u8 n = bv (UInt8.ofNat n) := by
  unfold bv; congr 1; simp; omega

theorem Row_spec (h : sat E w H) {v : Value} {cs : List (List UInt8)} (hv : Rds H v cs.length (cs.map tv)) (hm : cs.length ≤ 9223372036854775807)
    (k0 : ∀ e w', e ≠ 0 → 0 < cs.length → sat E w' H → K (.tuple #[.slice none 0 0, .int .i64 e]) w')
    (k1 : ∀ v' w', cs.length ≤ 8 → (∀ c ∈ cs, c.length ≤ 70) → (rowB cs).length ≤ 72 → sat E w' (osl 5 1 v' (rowB cs).length ((rowB cs).map bv) * H) → K (.tuple #[v', .int .i64 0]) w') :
    Calls prog 36 #[v] w (Ret K) := by
  obtain ⟨a, c, rfl, hc, hv, ha⟩ := hv.shape h
  refine c36 ?_
  unfold B36
  simp only [↓o_nil, ↓o_field, ↓o_add, ↓o_sub, ↓o_mul, ↓o_lss, ↓o_leq, ↓o_gtr, ↓o_geq, ↓o_not, ↓o_pick, ↓o_eqInt, ↓o_neInt, ↓o_eqBool, ↓o_neBool, ↓o_eqPtr, ↓o_nePtr, ↓o_eqPtr', ↓o_eqSl, ↓o_neSl, ↓o_eqStr, ↓o_neStr, ↓o_len, ↓o_lenS, ↓o_min, ↓o_max, ↓o_extract, ↓o_convInt, ↓cd_true, ↓cd_false, ↓gate_tt, ↓gate_ff, ↓gate_tf, ↓gate_ft, ↓gate_undef, ↓pop_cons, ↓fin_nil, Option.isNone_none, Option.isNone_some, Bool.not_true, Bool.not_false, Nat.zero_add, decide_true, decide_false, if_true, if_false, Bool.false_eq_true, ↓reduceIte]
  by_cases h8 : (8 : Int) < cs.length
  · simp only [h8, ↓o_nil, ↓o_field, ↓o_add, ↓o_sub, ↓o_mul, ↓o_lss, ↓o_leq, ↓o_gtr, ↓o_geq, ↓o_not, ↓o_pick, ↓o_eqInt, ↓o_neInt, ↓o_eqBool, ↓o_neBool, ↓o_eqPtr, ↓o_nePtr, ↓o_eqPtr', ↓o_eqSl, ↓o_neSl, ↓o_eqStr, ↓o_neStr, ↓o_len, ↓o_lenS, ↓o_min, ↓o_max, ↓o_extract, ↓o_convInt, ↓cd_true, ↓cd_false, ↓gate_tt, ↓gate_ff, ↓gate_tf, ↓gate_ft, ↓gate_undef, ↓pop_cons, ↓fin_nil, Option.isNone_none, Option.isNone_some, Bool.not_true, Bool.not_false, Nat.zero_add, decide_true, decide_false, if_true, if_false, Bool.false_eq_true, ↓reduceIte]
    exact k0 2 w (by decide) (by omega) h
  · simp only [h8, ↓o_nil, ↓o_field, ↓o_add, ↓o_sub, ↓o_mul, ↓o_lss, ↓o_leq, ↓o_gtr, ↓o_geq, ↓o_not, ↓o_pick, ↓o_eqInt, ↓o_neInt, ↓o_eqBool, ↓o_neBool, ↓o_eqPtr, ↓o_nePtr, ↓o_eqPtr', ↓o_eqSl, ↓o_neSl, ↓o_eqStr, ↓o_neStr, ↓o_len, ↓o_lenS, ↓o_min, ↓o_max, ↓o_extract, ↓o_convInt, ↓cd_true, ↓cd_false, ↓gate_tt, ↓gate_ff, ↓gate_tf, ↓gate_ft, ↓gate_undef, ↓pop_cons, ↓fin_nil, Option.isNone_none, Option.isNone_some, Bool.not_true, Bool.not_false, Nat.zero_add, decide_true, decide_false, if_true, if_false, Bool.false_eq_true, ↓reduceIte]
    have e0 : IntKind.u8.wrap (cs.length : Int) = cs.length := by rw [IntKind.wrap_u8]; omega
    rw [e0]
    refine buildSlice_sl (e := 5) (cs := #[.int .u8 cs.length]) h (fun w => by kernel_rfl) fun b w h => ?_
    have h := osl_of (n := 1) (sz := 1) (xs := [.int .u8 cs.length]) h rfl (by omega)
    refine lp_nat (fun n σ w => ∃ (i : Nat) (ov : Value), σ = [ov, .int .i64 i] ∧ n = cs.length - i ∧ i ≤ cs.length ∧ (∀ c ∈ cs.take i, c.length ≤ 70) ∧ (colB (cs.take i)).length ≤ 71 * i ∧
      sat E w (osl 5 1 ov (1 + (colB (cs.take i)).length) (.int .u8 cs.length :: (colB (cs.take i)).map bv) * H)) cs.length ⟨0, _, rfl, rfl, by omega, by simp, by simp [colB], h⟩ ?_
    rintro n σ w again ⟨i, ov, rfl, rfl, hi, h70, hlen, h⟩ hag
    simp only [↓o_nil, ↓o_field, ↓o_add, ↓o_sub, ↓o_mul, ↓o_lss, ↓o_leq, ↓o_gtr, ↓o_geq, ↓o_not, ↓o_pick, ↓o_eqInt, ↓o_neInt, ↓o_eqBool, ↓o_neBool, ↓o_eqPtr, ↓o_nePtr, ↓o_eqPtr', ↓o_eqSl, ↓o_neSl, ↓o_eqStr, ↓o_neStr, ↓o_len, ↓o_lenS, ↓o_min, ↓o_max, ↓o_extract, ↓o_convInt, ↓cd_true, ↓cd_false, ↓gate_tt, ↓gate_ff, ↓gate_tf, ↓gate_ft, ↓gate_undef, ↓pop_cons, ↓fin_nil, Option.isNone_none, Option.isNone_some, Bool.not_true, Bool.not_false, Nat.zero_add, decide_true, decide_false, if_true, if_false, Bool.false_eq_true, ↓reduceIte]
    refine cd_dec (fun hlt => ?_) (fun hge => ?_)
    · have hlt : i < cs.length := by omega
      obtain ⟨b1, o1, rfl, hb1⟩ := win_cell (hv.win h.drop) (j := i) (by simp; omega)
      rw [o_index (by omega) (by omega)]
      simp only [Int.toNat_natCast, Nat.mul_one]
      refine ld_cell hb1 ?_
      simp only [List.getElem_map, ↓o_lenT, ↓o_nil, ↓o_field, ↓o_add, ↓o_sub, ↓o_mul, ↓o_lss, ↓o_leq, ↓o_gtr, ↓o_geq, ↓o_not, ↓o_pick, ↓o_eqInt, ↓o_neInt, ↓o_eqBool, ↓o_neBool, ↓o_eqPtr, ↓o_nePtr, ↓o_eqPtr', ↓o_eqSl, ↓o_neSl, ↓o_eqStr, ↓o_neStr, ↓o_len, ↓o_lenS, ↓o_min, ↓o_max, ↓o_extract, ↓o_convInt, ↓cd_true, ↓cd_false, ↓gate_tt, ↓gate_ff, ↓gate_tf, ↓gate_ft, ↓gate_undef, ↓pop_cons, ↓fin_nil, Option.isNone_none, Option.isNone_some, Bool.not_true, Bool.not_false, Nat.zero_add, decide_true, decide_false, if_true, if_false, Bool.false_eq_true, ↓reduceIte]
      by_cases hb : (70 : Int) < cs[i].length
      · simp only [hb, ↓o_nil, ↓o_field, ↓o_add, ↓o_sub, ↓o_mul, ↓o_lss, ↓o_leq, ↓o_gtr, ↓o_geq, ↓o_not, ↓o_pick, ↓o_eqInt, ↓o_neInt, ↓o_eqBool, ↓o_neBool, ↓o_eqPtr, ↓o_nePtr, ↓o_eqPtr', ↓o_eqSl, ↓o_neSl, ↓o_eqStr, ↓o_neStr, ↓o_len, ↓o_lenS, ↓o_min, ↓o_max, ↓o_extract, ↓o_convInt, ↓cd_true, ↓cd_false, ↓gate_tt, ↓gate_ff, ↓gate_tf, ↓gate_ft, ↓gate_undef, ↓pop_cons, ↓fin_nil, Option.isNone_none, Option.isNone_some, Bool.not_true, Bool.not_false, Nat.zero_add, decide_true, decide_false, if_true, if_false, Bool.false_eq_true, ↓reduceIte]
        exact k0 6 w (by decide) (by omega) h.drop
      · simp only [hb, ↓o_nil, ↓o_field, ↓o_add, ↓o_sub, ↓o_mul, ↓o_lss, ↓o_leq, ↓o_gtr, ↓o_geq, ↓o_not, ↓o_pick, ↓o_eqInt, ↓o_neInt, ↓o_eqBool, ↓o_neBool, ↓o_eqPtr, ↓o_nePtr, ↓o_eqPtr', ↓o_eqSl, ↓o_neSl, ↓o_eqStr, ↓o_neStr, ↓o_len, ↓o_lenS, ↓o_min, ↓o_max, ↓o_extract, ↓o_convInt, ↓cd_true, ↓cd_false, ↓gate_tt, ↓gate_ff, ↓gate_tf, ↓gate_ft, ↓gate_undef, ↓pop_cons, ↓fin_nil, Option.isNone_none, Option.isNone_some, Bool.not_true, Bool.not_false, Nat.zero_add, decide_true, decide_false, if_true, if_false, Bool.false_eq_true, ↓reduceIte]
        have e1 : IntKind.u8.wrap (cs[i].length : Int) = cs[i].length := by rw [IntKind.wrap_u8]; omega
        rw [e1]
        refine buildSlice_sl (e := 5) (cs := #[.int .u8 cs[i].length]) h (fun w => by kernel_rfl) fun b2 w h => ?_
        refine append_sl h [.int .u8 cs[i].length] rfl (.inr ⟨b2, 0, _, 5, (0, 0), rfl, h.pts_get, fun j v hj => by simpa using hj⟩) (by simp [Value.oneCell']) (by omega) (by omega) fun ov2 w h => ?_
        refine append_str h (by omega) fun ov3 w h => ?_
        rw [i64_of (by omega) (by omega)]
        have et : cs.take (i + 1) = cs.take i ++ [cs[i]] := List.take_succ_eq_append_getElem hlt
        refine hag _ _ _ (by omega) ⟨i + 1, ov3, rfl, rfl, by omega, ?_, ?_, ?_⟩
        · rw [et]; intro c hc
          rcases List.mem_append.1 hc with hc | hc
          · exact h70 c hc
          · simp at hc; subst hc; omega
        · rw [et, colB_length]; omega
        · rw [et, colB_length]
          have e2 : (Value.int .u8 cs.length :: (colB (cs.take i ++ [cs[i]])).map bv) = (.int .u8 cs.length :: (colB (cs.take i)).map bv) ++ [.int .u8 cs[i].length] ++ cs[i].map bv := by
            rw [colB_snoc]
            simp [bv_ofNat cs[i].length (by omega)]
          rw [e2, show 1 + ((colB (cs.take i)).length + 1 + cs[i].length) = 1 + (colB (cs.take i)).length + 1 + cs[i].length by omega]
          exact h.lose b2
    · have hi2 : i = cs.length := by omega
      subst hi2
      obtain ⟨ao, co, rfl, _, _, _⟩ := osl_shape h
      rw [List.take_length] at *
      simp only [↓o_nil, ↓o_field, ↓o_add, ↓o_sub, ↓o_mul, ↓o_lss, ↓o_leq, ↓o_gtr, ↓o_geq, ↓o_not, ↓o_pick, ↓o_eqInt, ↓o_neInt, ↓o_eqBool, ↓o_neBool, ↓o_eqPtr, ↓o_nePtr, ↓o_eqPtr', ↓o_eqSl, ↓o_neSl, ↓o_eqStr, ↓o_neStr, ↓o_len, ↓o_lenS, ↓o_min, ↓o_max, ↓o_extract, ↓o_convInt, ↓cd_true, ↓cd_false, ↓gate_tt, ↓gate_ff, ↓gate_tf, ↓gate_ft, ↓gate_undef, ↓pop_cons, ↓fin_nil, Option.isNone_none, Option.isNone_some, Bool.not_true, Bool.not_false, Nat.zero_add, decide_true, decide_false, if_true, if_false, Bool.false_eq_true, ↓reduceIte]
      by_cases h72 : (72 : Int) < ((1 + (colB cs).length : Nat) : Int)
      · simp only [h72, ↓o_nil, ↓o_field, ↓o_add, ↓o_sub, ↓o_mul, ↓o_lss, ↓o_leq, ↓o_gtr, ↓o_geq, ↓o_not, ↓o_pick, ↓o_eqInt, ↓o_neInt, ↓o_eqBool, ↓o_neBool, ↓o_eqPtr, ↓o_nePtr, ↓o_eqPtr', ↓o_eqSl, ↓o_neSl, ↓o_eqStr, ↓o_neStr, ↓o_len, ↓o_lenS, ↓o_min, ↓o_max, ↓o_extract, ↓o_convInt, ↓cd_true, ↓cd_false, ↓gate_tt, ↓gate_ff, ↓gate_tf, ↓gate_ft, ↓gate_undef, ↓pop_cons, ↓fin_nil, Option.isNone_none, Option.isNone_some, Bool.not_true, Bool.not_false, Nat.zero_add, decide_true, decide_false, if_true, if_false, Bool.false_eq_true, ↓reduceIte]
        exact k0 6 w (by decide) (by
          rcases Nat.eq_zero_or_pos cs.length with h0 | h0
          · rw [h0] at hlen; omega
          · exact h0) h.drop
      · simp only [h72, ↓o_nil, ↓o_field, ↓o_add, ↓o_sub, ↓o_mul, ↓o_lss, ↓o_leq, ↓o_gtr, ↓o_geq, ↓o_not, ↓o_pick, ↓o_eqInt, ↓o_neInt, ↓o_eqBool, ↓o_neBool, ↓o_eqPtr, ↓o_nePtr, ↓o_eqPtr', ↓o_eqSl, ↓o_neSl, ↓o_eqStr, ↓o_neStr, ↓o_len, ↓o_lenS, ↓o_min, ↓o_max, ↓o_extract, ↓o_convInt, ↓cd_true, ↓cd_false, ↓gate_tt, ↓gate_ff, ↓gate_tf, ↓gate_ft, ↓gate_undef, ↓pop_cons, ↓fin_nil, Option.isNone_none, Option.isNone_some, Bool.not_true, Bool.not_false, Nat.zero_add, decide_true, decide_false, if_true, if_false, Bool.false_eq_true, ↓reduceIte]
        refine k1 _ w (by omega) h70 (by simp [rowB]; omega) ?_
        have e3 : (rowB cs).length = 1 + (colB cs).length := by simp [rowB]; omega
        have e4 : (rowB cs).map bv = .int .u8 cs.length :: (colB cs).map bv := by simp [rowB, bv_ofNat cs.length (by omega)]
        rw [e3, e4]
        exact h

theorem Columns_spec (h : sat E w H) {v : Value} {l : List UInt8} (hv : Rds H v l.length (l.map bv))
    (k0 : ∀ e w', e ≠ 0 → cols l = none → sat E w' H → K (.tuple #[.slice none 0 0, .int .i64 e]) w')
    (k1 : ∀ v' cs w', cols l = some cs → sat E w' (osl 9 1 v' cs.length (cs.map tv) * H) → K (.tuple #[v', .int .i64 0]) w') :
    Calls prog 37 #[v] w (Ret K) := by
  obtain ⟨a, c, rfl, hc, hv, ha⟩ := hv.shape h
  refine c37 ?_
  unfold B37
  simp only [↓o_nil, ↓o_field, ↓o_add, ↓o_sub, ↓o_mul, ↓o_lss, ↓o_leq, ↓o_gtr, ↓o_geq, ↓o_not, ↓o_pick, ↓o_eqInt, ↓o_neInt, ↓o_eqBool, ↓o_neBool, ↓o_eqPtr, ↓o_nePtr, ↓o_eqPtr', ↓o_eqSl, ↓o_neSl, ↓o_eqStr, ↓o_neStr, ↓o_len, ↓o_lenS, ↓o_min, ↓o_max, ↓o_extract, ↓o_convInt, ↓cd_true, ↓cd_false, ↓gate_tt, ↓gate_ff, ↓gate_tf, ↓gate_ft, ↓gate_undef, ↓pop_cons, ↓fin_nil, Option.isNone_none, Option.isNone_some, Bool.not_true, Bool.not_false, Nat.zero_add, decide_true, decide_false, if_true, if_false, Bool.false_eq_true, ↓reduceIte]
  by_cases h72 : (72 : Int) < l.length
  · simp only [h72, ↓o_nil, ↓o_field, ↓o_add, ↓o_sub, ↓o_mul, ↓o_lss, ↓o_leq, ↓o_gtr, ↓o_geq, ↓o_not, ↓o_pick, ↓o_eqInt, ↓o_neInt, ↓o_eqBool, ↓o_neBool, ↓o_eqPtr, ↓o_nePtr, ↓o_eqPtr', ↓o_eqSl, ↓o_neSl, ↓o_eqStr, ↓o_neStr, ↓o_len, ↓o_lenS, ↓o_min, ↓o_max, ↓o_extract, ↓o_convInt, ↓cd_true, ↓cd_false, ↓gate_tt, ↓gate_ff, ↓gate_tf, ↓gate_ft, ↓gate_undef, ↓pop_cons, ↓fin_nil, Option.isNone_none, Option.isNone_some, Bool.not_true, Bool.not_false, Nat.zero_add, decide_true, decide_false, if_true, if_false, Bool.false_eq_true, ↓reduceIte]
    exact k0 6 w (by decide) (by unfold cols; rw [if_pos (by omega)]) h
  · simp only [h72, ↓o_nil, ↓o_field, ↓o_add, ↓o_sub, ↓o_mul, ↓o_lss, ↓o_leq, ↓o_gtr, ↓o_geq, ↓o_not, ↓o_pick, ↓o_eqInt, ↓o_neInt, ↓o_eqBool, ↓o_neBool, ↓o_eqPtr, ↓o_nePtr, ↓o_eqPtr', ↓o_eqSl, ↓o_neSl, ↓o_eqStr, ↓o_neStr, ↓o_len, ↓o_lenS, ↓o_min, ↓o_max, ↓o_extract, ↓o_convInt, ↓cd_true, ↓cd_false, ↓gate_tt, ↓gate_ff, ↓gate_tf, ↓gate_ft, ↓gate_undef, ↓pop_cons, ↓fin_nil, Option.isNone_none, Option.isNone_some, Bool.not_true, Bool.not_false, Nat.zero_add, decide_true, decide_false, if_true, if_false, Bool.false_eq_true, ↓reduceIte]
    cases l with
    | nil =>
      have hz : ((List.length ([] : List UInt8) : Nat) : Int) = 0 := rfl
      simp only [hz, ↓o_nil, ↓o_field, ↓o_add, ↓o_sub, ↓o_mul, ↓o_lss, ↓o_leq, ↓o_gtr, ↓o_geq, ↓o_not, ↓o_pick, ↓o_eqInt, ↓o_neInt, ↓o_eqBool, ↓o_neBool, ↓o_eqPtr, ↓o_nePtr, ↓o_eqPtr', ↓o_eqSl, ↓o_neSl, ↓o_eqStr, ↓o_neStr, ↓o_len, ↓o_lenS, ↓o_min, ↓o_max, ↓o_extract, ↓o_convInt, ↓cd_true, ↓cd_false, ↓gate_tt, ↓gate_ff, ↓gate_tf, ↓gate_ft, ↓gate_undef, ↓pop_cons, ↓fin_nil, Option.isNone_none, Option.isNone_some, Bool.not_true, Bool.not_false, Nat.zero_add, decide_true, decide_false, if_true, if_false, Bool.false_eq_true, ↓reduceIte]
      exact k0 3 w (by decide) (by unfold cols; rw [if_neg (by simp)]) h
    | cons x r =>
      have hx := x.toNat_lt
      have hz : ¬ (((x :: r).length : Nat) : Int) = 0 := by simp; omega
      have hl : (x :: r).length = r.length + 1 := rfl
      simp only [hz, ↓o_nil, ↓o_field, ↓o_add, ↓o_sub, ↓o_mul, ↓o_lss, ↓o_leq, ↓o_gtr, ↓o_geq, ↓o_not, ↓o_pick, ↓o_eqInt, ↓o_neInt, ↓o_eqBool, ↓o_neBool, ↓o_eqPtr, ↓o_nePtr, ↓o_eqPtr', ↓o_eqSl, ↓o_neSl, ↓o_eqStr, ↓o_neStr, ↓o_len, ↓o_lenS, ↓o_min, ↓o_max, ↓o_extract, ↓o_convInt, ↓cd_true, ↓cd_false, ↓gate_tt, ↓gate_ff, ↓gate_tf, ↓gate_ft, ↓gate_undef, ↓pop_cons, ↓fin_nil, Option.isNone_none, Option.isNone_some, Bool.not_true, Bool.not_false, Nat.zero_add, decide_true, decide_false, if_true, if_false, Bool.false_eq_true, ↓reduceIte]
      obtain ⟨b1, o1, rfl, hb1⟩ := win_cell (hv.win h) (j := 0) (by simp)
      rw [o_index (by omega) (by omega)]
      simp only [Int.toNat_zero, Nat.zero_mul, Nat.add_zero] at hb1 ⊢
      refine ld_cell (v := bv x) hb1 ?_
      simp only [bv, ↓o_nil, ↓o_field, ↓o_add, ↓o_sub, ↓o_mul, ↓o_lss, ↓o_leq, ↓o_gtr, ↓o_geq, ↓o_not, ↓o_pick, ↓o_eqInt, ↓o_neInt, ↓o_eqBool, ↓o_neBool, ↓o_eqPtr, ↓o_nePtr, ↓o_eqPtr', ↓o_eqSl, ↓o_neSl, ↓o_eqStr, ↓o_neStr, ↓o_len, ↓o_lenS, ↓o_min, ↓o_max, ↓o_extract, ↓o_convInt, ↓cd_true, ↓cd_false, ↓gate_tt, ↓gate_ff, ↓gate_tf, ↓gate_ft, ↓gate_undef, ↓pop_cons, ↓fin_nil, Option.isNone_none, Option.isNone_some, Bool.not_true, Bool.not_false, Nat.zero_add, decide_true, decide_false, if_true, if_false, Bool.false_eq_true, ↓reduceIte]
      by_cases h8 : (8 : Int) < x.toNat
      · simp only [h8, ↓o_nil, ↓o_field, ↓o_add, ↓o_sub, ↓o_mul, ↓o_lss, ↓o_leq, ↓o_gtr, ↓o_geq, ↓o_not, ↓o_pick, ↓o_eqInt, ↓o_neInt, ↓o_eqBool, ↓o_neBool, ↓o_eqPtr, ↓o_nePtr, ↓o_eqPtr', ↓o_eqSl, ↓o_neSl, ↓o_eqStr, ↓o_neStr, ↓o_len, ↓o_lenS, ↓o_min, ↓o_max, ↓o_extract, ↓o_convInt, ↓cd_true, ↓cd_false, ↓gate_tt, ↓gate_ff, ↓gate_tf, ↓gate_ft, ↓gate_undef, ↓pop_cons, ↓fin_nil, Option.isNone_none, Option.isNone_some, Bool.not_true, Bool.not_false, Nat.zero_add, decide_true, decide_false, if_true, if_false, Bool.false_eq_true, ↓reduceIte]
        exact k0 3 w (by decide) (by unfold cols; rw [if_neg (by omega)]; simp only; rw [if_neg (by omega)]) h
      · simp only [h8, ↓o_nil, ↓o_field, ↓o_add, ↓o_sub, ↓o_mul, ↓o_lss, ↓o_leq, ↓o_gtr, ↓o_geq, ↓o_not, ↓o_pick, ↓o_eqInt, ↓o_neInt, ↓o_eqBool, ↓o_neBool, ↓o_eqPtr, ↓o_nePtr, ↓o_eqPtr', ↓o_eqSl, ↓o_neSl, ↓o_eqStr, ↓o_neStr, ↓o_len, ↓o_lenS, ↓o_min, ↓o_max, ↓o_extract, ↓o_convInt, ↓cd_true, ↓cd_false, ↓gate_tt, ↓gate_ff, ↓gate_tf, ↓gate_ft, ↓gate_undef, ↓pop_cons, ↓fin_nil, Option.isNone_none, Option.isNone_some, Bool.not_true, Bool.not_false, Nat.zero_add, decide_true, decide_false, if_true, if_false, Bool.false_eq_true, ↓reduceIte]
        rw [o_index (by omega) (by omega)]
        simp only [Int.toNat_zero, Nat.zero_mul, Nat.add_zero]
        refine ld_cell (v := .int .u8 x.toNat) hb1 ?_
        refine make_sl h rfl (by omega) (by omega) (by omega) (by omega) fun bo w h => ?_
        simp only [Int.toNat_natCast] at h ⊢
        rw [o_slice_l (by omega) (by omega)]
        simp only [↓o_nil, ↓o_field, ↓o_add, ↓o_sub, ↓o_mul, ↓o_lss, ↓o_leq, ↓o_gtr, ↓o_geq, ↓o_not, ↓o_pick, ↓o_eqInt, ↓o_neInt, ↓o_eqBool, ↓o_neBool, ↓o_eqPtr, ↓o_nePtr, ↓o_eqPtr', ↓o_eqSl, ↓o_neSl, ↓o_eqStr, ↓o_neStr, ↓o_len, ↓o_lenS, ↓o_min, ↓o_max, ↓o_extract, ↓o_convInt, ↓cd_true, ↓cd_false, ↓gate_tt, ↓gate_ff, ↓gate_tf, ↓gate_ft, ↓gate_undef, ↓pop_cons, ↓fin_nil, Option.isNone_none, Option.isNone_some, Bool.not_true, Bool.not_false, Nat.zero_add, decide_true, decide_false, if_true, if_false, Bool.false_eq_true, ↓reduceIte]
        have hc1 : cols (x :: r) = dec x.toNat r := by
          unfold cols; rw [if_neg (by omega)]; simp only; rw [if_pos (by omega)]
        rw [hc1] at k0 k1
        have hr : Rds H (.slice (cutA (some ⟨b1, o1, none⟩) c 1 1) r.length (c - 1)) r.length (r.map bv) := fun E w hs => by
          have := (hv E w hs).cutl (lo := 1) (by simp) (by omega)
          simpa using this
        have e1 : (x :: r).length - (1 : Int).toNat = r.length := by simp
        rw [e1]
        refine lp_nat (fun m σ w => ∃ (i : Nat) (vb : Value) (l' : List UInt8) (dn : List (List UInt8)), σ = [vb, .int .i64 i] ∧ m = x.toNat - i ∧ i ≤ x.toNat ∧ dn.length = i ∧ dec x.toNat r = (dec (x.toNat - i) l').map (dn ++ ·) ∧ l'.length ≤ 71 ∧
          Rds H vb l'.length (l'.map bv) ∧ sat E w (pts bo (.cells (dn.map tv ++ List.replicate (x.toNat - i) (tv [])).toArray 9 (0, 0)) * H)) x.toNat ⟨0, _, r, [], rfl, rfl, by omega, rfl, by simp, by omega, hr, h⟩ ?_
        rintro m σ w again ⟨i, vb, l', dn, rfl, rfl, hi, hdn, hdec, hl', hb, h⟩ hag
        obtain ⟨a2, c2, rfl, hc2, hb, ha2⟩ := hb.shape h.drop
        simp only [↓o_nil, ↓o_field, ↓o_add, ↓o_sub, ↓o_mul, ↓o_lss, ↓o_leq, ↓o_gtr, ↓o_geq, ↓o_not, ↓o_pick, ↓o_eqInt, ↓o_neInt, ↓o_eqBool, ↓o_neBool, ↓o_eqPtr, ↓o_nePtr, ↓o_eqPtr', ↓o_eqSl, ↓o_neSl, ↓o_eqStr, ↓o_neStr, ↓o_len, ↓o_lenS, ↓o_min, ↓o_max, ↓o_extract, ↓o_convInt, ↓cd_true, ↓cd_false, ↓gate_tt, ↓gate_ff, ↓gate_tf, ↓gate_ft, ↓gate_undef, ↓pop_cons, ↓fin_nil, Option.isNone_none, Option.isNone_some, Bool.not_true, Bool.not_false, Nat.zero_add, decide_true, decide_false, if_true, if_false, Bool.false_eq_true, ↓reduceIte]
        refine cd_dec (fun hlt => ?_) (fun hge => ?_)
        · have hlt : i < x.toNat := by omega
          obtain ⟨p, hp⟩ : ∃ p, x.toNat - i = p + 1 := ⟨x.toNat - i - 1, by omega⟩
          have hbad : dec (x.toNat - i) l' = none → dec x.toNat r = none := fun hh => by rw [hdec, hh]; rfl
          cases l' with
          | nil =>
            have hz : ((List.length ([] : List UInt8) : Nat) : Int) = 0 := rfl
            simp only [hz, ↓o_nil, ↓o_field, ↓o_add, ↓o_sub, ↓o_mul, ↓o_lss, ↓o_leq, ↓o_gtr, ↓o_geq, ↓o_not, ↓o_pick, ↓o_eqInt, ↓o_neInt, ↓o_eqBool, ↓o_neBool, ↓o_eqPtr, ↓o_nePtr, ↓o_eqPtr', ↓o_eqSl, ↓o_neSl, ↓o_eqStr, ↓o_neStr, ↓o_len, ↓o_lenS, ↓o_min, ↓o_max, ↓o_extract, ↓o_convInt, ↓cd_true, ↓cd_false, ↓gate_tt, ↓gate_ff, ↓gate_tf, ↓gate_ft, ↓gate_undef, ↓pop_cons, ↓fin_nil, Option.isNone_none, Option.isNone_some, Bool.not_true, Bool.not_false, Nat.zero_add, decide_true, decide_false, if_true, if_false, Bool.false_eq_true, ↓reduceIte]
            exact k0 3 w (by decide) (hbad (by rw [hp]; rfl)) h.drop
          | cons y q =>
            have hy := y.toNat_lt
            have hz : ¬ (((y :: q).length : Nat) : Int) = 0 := by simp; omega
            have hql : (y :: q).length = q.length + 1 := rfl
            simp only [hz, ↓o_nil, ↓o_field, ↓o_add, ↓o_sub, ↓o_mul, ↓o_lss, ↓o_leq, ↓o_gtr, ↓o_geq, ↓o_not, ↓o_pick, ↓o_eqInt, ↓o_neInt, ↓o_eqBool, ↓o_neBool, ↓o_eqPtr, ↓o_nePtr, ↓o_eqPtr', ↓o_eqSl, ↓o_neSl, ↓o_eqStr, ↓o_neStr, ↓o_len, ↓o_lenS, ↓o_min, ↓o_max, ↓o_extract, ↓o_convInt, ↓cd_true, ↓cd_false, ↓gate_tt, ↓gate_ff, ↓gate_tf, ↓gate_ft, ↓gate_undef, ↓pop_cons, ↓fin_nil, Option.isNone_none, Option.isNone_some, Bool.not_true, Bool.not_false, Nat.zero_add, decide_true, decide_false, if_true, if_false, Bool.false_eq_true, ↓reduceIte]
            obtain ⟨b3, o3, rfl, hb3⟩ := win_cell (hb.win h.drop) (j := 0) (by simp)
            rw [o_index (by omega) (by omega)]
            simp only [Int.toNat_zero, Nat.zero_mul, Nat.add_zero] at hb3 ⊢
            refine ld_cell (v := bv y) hb3 ?_
            simp only [bv, ↓o_nil, ↓o_field, ↓o_add, ↓o_sub, ↓o_mul, ↓o_lss, ↓o_leq, ↓o_gtr, ↓o_geq, ↓o_not, ↓o_pick, ↓o_eqInt, ↓o_neInt, ↓o_eqBool, ↓o_neBool, ↓o_eqPtr, ↓o_nePtr, ↓o_eqPtr', ↓o_eqSl, ↓o_neSl, ↓o_eqStr, ↓o_neStr, ↓o_len, ↓o_lenS, ↓o_min, ↓o_max, ↓o_extract, ↓o_convInt, ↓cd_true, ↓cd_false, ↓gate_tt, ↓gate_ff, ↓gate_tf, ↓gate_ft, ↓gate_undef, ↓pop_cons, ↓fin_nil, Option.isNone_none, Option.isNone_some, Bool.not_true, Bool.not_false, Nat.zero_add, decide_true, decide_false, if_true, if_false, Bool.false_eq_true, ↓reduceIte]
            by_cases h70 : (70 : Int) < y.toNat
            · simp only [h70, ↓o_nil, ↓o_field, ↓o_add, ↓o_sub, ↓o_mul, ↓o_lss, ↓o_leq, ↓o_gtr, ↓o_geq, ↓o_not, ↓o_pick, ↓o_eqInt, ↓o_neInt, ↓o_eqBool, ↓o_neBool, ↓o_eqPtr, ↓o_nePtr, ↓o_eqPtr', ↓o_eqSl, ↓o_neSl, ↓o_eqStr, ↓o_neStr, ↓o_len, ↓o_lenS, ↓o_min, ↓o_max, ↓o_extract, ↓o_convInt, ↓cd_true, ↓cd_false, ↓gate_tt, ↓gate_ff, ↓gate_tf, ↓gate_ft, ↓gate_undef, ↓pop_cons, ↓fin_nil, Option.isNone_none, Option.isNone_some, Bool.not_true, Bool.not_false, Nat.zero_add, decide_true, decide_false, if_true, if_false, Bool.false_eq_true, ↓reduceIte]
              exact k0 3 w (by decide) (hbad (by rw [hp]; simp only [dec]; rw [if_neg (by omega)])) h.drop
            · simp only [h70, ↓o_nil, ↓o_field, ↓o_add, ↓o_sub, ↓o_mul, ↓o_lss, ↓o_leq, ↓o_gtr, ↓o_geq, ↓o_not, ↓o_pick, ↓o_eqInt, ↓o_neInt, ↓o_eqBool, ↓o_neBool, ↓o_eqPtr, ↓o_nePtr, ↓o_eqPtr', ↓o_eqSl, ↓o_neSl, ↓o_eqStr, ↓o_neStr, ↓o_len, ↓o_lenS, ↓o_min, ↓o_max, ↓o_extract, ↓o_convInt, ↓cd_true, ↓cd_false, ↓gate_tt, ↓gate_ff, ↓gate_tf, ↓gate_ft, ↓gate_undef, ↓pop_cons, ↓fin_nil, Option.isNone_none, Option.isNone_some, Bool.not_true, Bool.not_false, Nat.zero_add, decide_true, decide_false, if_true, if_false, Bool.false_eq_true, ↓reduceIte]
              rw [o_index (by omega) (by omega)]
              simp only [Int.toNat_zero, Nat.zero_mul, Nat.add_zero]
              refine ld_cell (v := .int .u8 y.toNat) hb3 ?_
              simp only [↓o_nil, ↓o_field, ↓o_add, ↓o_sub, ↓o_mul, ↓o_lss, ↓o_leq, ↓o_gtr, ↓o_geq, ↓o_not, ↓o_pick, ↓o_eqInt, ↓o_neInt, ↓o_eqBool, ↓o_neBool, ↓o_eqPtr, ↓o_nePtr, ↓o_eqPtr', ↓o_eqSl, ↓o_neSl, ↓o_eqStr, ↓o_neStr, ↓o_len, ↓o_lenS, ↓o_min, ↓o_max, ↓o_extract, ↓o_convInt, ↓cd_true, ↓cd_false, ↓gate_tt, ↓gate_ff, ↓gate_tf, ↓gate_ft, ↓gate_undef, ↓pop_cons, ↓fin_nil, Option.isNone_none, Option.isNone_some, Bool.not_true, Bool.not_false, Nat.zero_add, decide_true, decide_false, if_true, if_false, Bool.false_eq_true, ↓reduceIte]
              rw [i64_of (n := (y.toNat : Int)) (by omega) (by omega)]
              by_cases hlong : (((y :: q).length : Nat) : Int) ≤ y.toNat
              · simp only [hlong, ↓o_nil, ↓o_field, ↓o_add, ↓o_sub, ↓o_mul, ↓o_lss, ↓o_leq, ↓o_gtr, ↓o_geq, ↓o_not, ↓o_pick, ↓o_eqInt, ↓o_neInt, ↓o_eqBool, ↓o_neBool, ↓o_eqPtr, ↓o_nePtr, ↓o_eqPtr', ↓o_eqSl, ↓o_neSl, ↓o_eqStr, ↓o_neStr, ↓o_len, ↓o_lenS, ↓o_min, ↓o_max, ↓o_extract, ↓o_convInt, ↓cd_true, ↓cd_false, ↓gate_tt, ↓gate_ff, ↓gate_tf, ↓gate_ft, ↓gate_undef, ↓pop_cons, ↓fin_nil, Option.isNone_none, Option.isNone_some, Bool.not_true, Bool.not_false, Nat.zero_add, decide_true, decide_false, if_true, if_false, Bool.false_eq_true, ↓reduceIte]
                exact k0 3 w (by decide) (hbad (by rw [hp]; simp only [dec]; rw [if_neg (by omega)])) h.drop
              · simp only [hlong, ↓o_nil, ↓o_field, ↓o_add, ↓o_sub, ↓o_mul, ↓o_lss, ↓o_leq, ↓o_gtr, ↓o_geq, ↓o_not, ↓o_pick, ↓o_eqInt, ↓o_neInt, ↓o_eqBool, ↓o_neBool, ↓o_eqPtr, ↓o_nePtr, ↓o_eqPtr', ↓o_eqSl, ↓o_neSl, ↓o_eqStr, ↓o_neStr, ↓o_len, ↓o_lenS, ↓o_min, ↓o_max, ↓o_extract, ↓o_convInt, ↓cd_true, ↓cd_false, ↓gate_tt, ↓gate_ff, ↓gate_tf, ↓gate_ft, ↓gate_undef, ↓pop_cons, ↓fin_nil, Option.isNone_none, Option.isNone_some, Bool.not_true, Bool.not_false, Nat.zero_add, decide_true, decide_false, if_true, if_false, Bool.false_eq_true, ↓reduceIte]
                rw [o_index (by omega) (by omega)]
                simp only [Int.toNat_zero, Nat.zero_mul, Nat.add_zero]
                refine ld_cell (v := .int .u8 y.toNat) hb3 ?_
                simp only [↓o_nil, ↓o_field, ↓o_add, ↓o_sub, ↓o_mul, ↓o_lss, ↓o_leq, ↓o_gtr, ↓o_geq, ↓o_not, ↓o_pick, ↓o_eqInt, ↓o_neInt, ↓o_eqBool, ↓o_neBool, ↓o_eqPtr, ↓o_nePtr, ↓o_eqPtr', ↓o_eqSl, ↓o_neSl, ↓o_eqStr, ↓o_neStr, ↓o_len, ↓o_lenS, ↓o_min, ↓o_max, ↓o_extract, ↓o_convInt, ↓cd_true, ↓cd_false, ↓gate_tt, ↓gate_ff, ↓gate_tf, ↓gate_ft, ↓gate_undef, ↓pop_cons, ↓fin_nil, Option.isNone_none, Option.isNone_some, Bool.not_true, Bool.not_false, Nat.zero_add, decide_true, decide_false, if_true, if_false, Bool.false_eq_true, ↓reduceIte]
                rw [i64_of (n := (y.toNat : Int)) (by omega) (by omega)]
                rw [i64_of (n := (y.toNat : Int) + 1) (by omega) (by omega)]
                rw [o_slice_lh (by omega) (by omega) (by omega)]
                have et : ((y.toNat : Int) + 1).toNat = y.toNat + 1 := by omega
                have eo : (1 : Int).toNat = 1 := rfl
                rw [et, eo]
                have hcut := (hb E w h.drop).cut (lo := 1) (hi := y.toNat + 1) (by simp) (by omega) (by omega)
                have etake : ((y :: q).map bv |>.drop 1).take (y.toNat + 1 - 1) = (q.take y.toNat).map bv := by simp [List.map_take]
                rw [etake] at hcut
                have elen : y.toNat + 1 - 1 = (q.take y.toNat).length := by simp; omega
                rw [elen] at hcut ⊢
                refine conv_bs hcut ?_
                rw [o_index (by omega) (by omega)]
                simp only [Int.toNat_natCast, Nat.mul_one, Nat.zero_add]
                refine store_sl h rfl (by simp; omega) fun w h => ?_
                rw [o_slice_l (by omega) (by omega), et]
                rw [i64_of (by omega) (by omega)]
                rw [set_fill (by simp [hdn]) hlt] at h
                have hgood : dec (x.toNat - i) (y :: q) = (dec (x.toNat - (i + 1)) (q.drop y.toNat)).map (q.take y.toNat :: ·) := by
                  rw [hp]; simp only [dec]
                  rw [if_pos (by omega), show x.toNat - (i + 1) = p by omega]
                refine hag _ _ _ (by omega) ⟨i + 1, _, q.drop y.toNat, dn ++ [q.take y.toNat], rfl, rfl, by omega, by simp [hdn], ?_, by simp; omega, fun E w hs => ?_, ?_⟩
                · rw [hdec, hgood, Option.map_map]
                  congr 1
                  funext z; simp
                · have := (hb E w hs).cutl (lo := y.toNat + 1) (by simp) (by omega)
                  have e5 : ((y :: q).map bv).drop (y.toNat + 1) = (q.drop y.toNat).map bv := by simp [List.map_drop]
                  rw [e5] at this
                  have e6 : (y :: q).length - (y.toNat + 1) = (q.drop y.toNat).length := by simp
                  rw [← e6]
                  exact this
                · have e7 : (dn ++ [q.take y.toNat]).map tv = dn.map tv ++ [tv (q.take y.toNat)] := by simp
                  rw [e7]
                  exact h
        · have hi2 : i = x.toNat := by omega
          subst hi2
          simp only [Nat.sub_self] at hdec h
          by_cases hmore : (0 : Int) < (l'.length : Nat)
          · simp only [hmore, ↓o_nil, ↓o_field, ↓o_add, ↓o_sub, ↓o_mul, ↓o_lss, ↓o_leq, ↓o_gtr, ↓o_geq, ↓o_not, ↓o_pick, ↓o_eqInt, ↓o_neInt, ↓o_eqBool, ↓o_neBool, ↓o_eqPtr, ↓o_nePtr, ↓o_eqPtr', ↓o_eqSl, ↓o_neSl, ↓o_eqStr, ↓o_neStr, ↓o_len, ↓o_lenS, ↓o_min, ↓o_max, ↓o_extract, ↓o_convInt, ↓cd_true, ↓cd_false, ↓gate_tt, ↓gate_ff, ↓gate_tf, ↓gate_ft, ↓gate_undef, ↓pop_cons, ↓fin_nil, Option.isNone_none, Option.isNone_some, Bool.not_true, Bool.not_false, Nat.zero_add, decide_true, decide_false, if_true, if_false, Bool.false_eq_true, ↓reduceIte]
            refine k0 3 w (by decide) ?_ h.drop
            cases l' with
            | nil => simp at hmore
            | cons y q => rw [hdec]; rfl
          · simp only [hmore, ↓o_nil, ↓o_field, ↓o_add, ↓o_sub, ↓o_mul, ↓o_lss, ↓o_leq, ↓o_gtr, ↓o_geq, ↓o_not, ↓o_pick, ↓o_eqInt, ↓o_neInt, ↓o_eqBool, ↓o_neBool, ↓o_eqPtr, ↓o_nePtr, ↓o_eqPtr', ↓o_eqSl, ↓o_neSl, ↓o_eqStr, ↓o_neStr, ↓o_len, ↓o_lenS, ↓o_min, ↓o_max, ↓o_extract, ↓o_convInt, ↓cd_true, ↓cd_false, ↓gate_tt, ↓gate_ff, ↓gate_tf, ↓gate_ft, ↓gate_undef, ↓pop_cons, ↓fin_nil, Option.isNone_none, Option.isNone_some, Bool.not_true, Bool.not_false, Nat.zero_add, decide_true, decide_false, if_true, if_false, Bool.false_eq_true, ↓reduceIte]
            have hnil : l' = [] := List.eq_nil_of_length_eq_zero (by omega)
            subst hnil
            simp only [List.replicate_zero, List.append_nil] at h
            have h := osl_of (n := x.toNat) (sz := 1) h (by simp [hdn]) (by omega)
            have := k1 (.slice (some ⟨bo, 0, none⟩) x.toNat x.toNat) dn w (by rw [hdec]; simp [dec])
            rw [hdn] at this
            exact this h

structure TInv (L : List (List UInt8)) (W : List (Int × List UInt8)) : Prop where
  wf : Wf L W
  len : L.length = 4
  three : L[3]? = some zeros
  no3 : ∀ p ∈ W, p.1 ≠ 3
theorem TInv.start : TInv (List.replicate 4 zeros) [] := ⟨⟨by decide, by decide, fun l hl => by rw [List.eq_of_mem_replicate hl]; rfl, fun p hp => by simp at hp⟩, rfl, rfl, fun p hp => by simp at hp⟩
theorem TInv.step {L : List (List UInt8)} {W : List (Int × List UInt8)} (h : TInv L W) {n : Nat} (hn : n < 3) {l : List UInt8} (hl : l.length = 256) (hnl : n < L.length) : TInv (L.set n l) (W ++ [((n : Int), L[n])]) := by
  refine ⟨⟨by simp; exact h.wf.pos, by simp; exact h.wf.le, fun m hm => ?_, fun p hp => ?_⟩, by simp [h.len], by rw [List.getElem?_set_ne (by omega)]; exact h.three, fun p hp => ?_⟩
  · rcases List.mem_or_eq_of_mem_set hm with hm | rfl
    · exact h.wf.l m hm
    · exact hl
  · rw [List.length_set]
    rcases List.mem_append.1 hp with hp | hp
    · exact h.wf.w p hp
    · simp at hp; subst hp
      exact ⟨by omega, by have := h.len; omega, h.wf.l _ (List.getElem_mem hnl)⟩
  · rcases List.mem_append.1 hp with hp | hp
    · exact h.no3 p hp
    · simp at hp; subst hp
      simp; omega
theorem undo_three : ∀ (W : List (Int × List UInt8)) (L : List (List UInt8)), (∀ p ∈ W, 0 ≤ p.1 ∧ p.1 ≠ 3) → (undo L W)[3]? = L[3]?
  | [], _, _ => rfl
  | p :: r, L, h => by
    have ih := undo_three r L (fun q hq => h q (List.mem_cons_of_mem _ hq))
    have h1 := h p (List.mem_cons_self)
    show ((undo L r).set p.1.toNat p.2)[3]? = _
    rw [List.getElem?_set_ne (by omega), ih]

theorem end_spec {bb bp d : Nat} {cb : Nat} {ac : Option Addr} {cc : Nat} {page : List UInt8} {L : List (List UInt8)} {W : List (Int × List UInt8)} (cs : List (List UInt8)) (hcs : Rds H (.slice ac cs.length cc) cs.length (cs.map tv)) (kb : UInt8)
    (h8 : cs.length ≤ 8) (h70 : ∀ c ∈ cs, c.length ≤ 70) (h72 : (rowB cs).length ≤ 72) (hpage : rowB cs ++ zeros.drop (rowB cs).length = page) (hpl : page.length = 256) (inv : TInv L W) (hW : W.length ≤ 20)
    (h : sat E w (dsk d L W * (osl 5 1 (.slice (some ⟨bp, 0, none⟩) 256 256) 256 (page.map bv) * (osl 5 1 (.slice (some ⟨bb, 0, none⟩) (rowB cs).length cb) (rowB cs).length ((rowB cs).map bv) * H)))) (k : ∀ w', sat E w' H → K (.bool true) w') :
    Calls prog 22 #[(.pointer (some ⟨d, 0, none⟩))] w (Ret fun t_42 w =>
    Calls prog 16 #[(.pointer (some ⟨d, 0, none⟩)), (.int .i64 3), (.slice (some ⟨bp, 0, none⟩) 256 256)] w (Ret fun t_43 w =>
    pvv prog (oEq .neq 34 (.tmp 87) (.const (.int .i64 0)) t_43 (.int .i64 0)) w fun t_44 w =>
    cd t_44 (
      K (.bool false) w) <|
    pvv prog (convert 5 3 (.int .u8 kb.toNat)) w fun t_45 w =>
    Calls prog 22 #[(.pointer (some ⟨d, 0, none⟩))] w (Ret fun t_46 w =>
    pvv prog (binOp .add 3 t_46 (.int .i64 1)) w fun t_47 w =>
    pvv prog (binOp .rem 3 t_45 t_47) w fun t_48 w =>
    Calls prog 29 #[(.pointer (some ⟨d, 0, none⟩)), t_48] w (Ret fun t_49 w =>
    pvv prog (Instr.extract t_49 0) w fun t_50 w =>
    pvv prog (Instr.extract t_49 1) w fun t_51 w =>
    Calls prog 18 #[t_50, (.int .i64 3)] w (Ret fun t_52 w =>
    pvv prog (Instr.extract t_52 0) w fun t_53 w =>
    pvv prog (Instr.extract t_52 1) w fun t_54 w =>
    pv prog (oBi .len #[32] 3 #[false] #[(.slice (some ⟨bb, 0, none⟩) (rowB cs).length cb)]) w fun t_55 w =>
    pv prog (oBi .len #[32] 3 #[false] #[t_53]) w fun t_56 w =>
    pv prog (oBi .min #[3, 3] 3 #[false, false] #[t_55, t_56]) w fun t_57 w =>
    pvv prog (Instr.sliceAt 32 t_53 none (some t_57) none) w fun t_58 w =>
    Calls prog 37 #[t_58] w (Ret fun t_59 w =>
    pvv prog (Instr.extract t_59 0) w fun t_60 w =>
    pvv prog (Instr.extract t_59 1) w fun t_61 w =>
    pvv prog (oEq .neq 34 (.tmp 117) (.const (.int .i64 0)) t_54 (.int .i64 0)) w fun t_62 w =>
    cd t_62 (
      K (.bool false) w) <|
    pvv prog (binOp .leq 3 t_48 t_42) w fun t_63 w =>
    cd t_63 (
      pvv prog (Instr.indexAt 32 t_53 (.int .i64 0)) w fun t_64 w =>
      ldv prog (Instr.loadAt 5 t_64) w fun t_65 w =>
      pvv prog (oEq .eql 5 (.tmp 124) (.const (.int .u8 0)) t_65 (.int .u8 0)) w fun t_66 w =>
      K t_66 w) <|
    pvv prog (oEq .neq 34 (.tmp 126) (.const (.int .i64 0)) t_61 (.int .i64 0)) w fun t_67 w =>
    gate (some (t_67, false)) (fun K => K t_60 w) w fun t_68 w =>
    gate (some (t_67, false)) (fun K => pv prog (oBi .len #[65] 3 #[false] #[t_68]) w K) w fun t_69 w =>
    gate (some (t_67, false)) (fun K => K (.slice ac cs.length cc) w) w fun t_70 w =>
    gate (some (t_67, false)) (fun K => pv prog (oBi .len #[65] 3 #[false] #[t_70]) w K) w fun t_71 w =>
    gate (some (t_67, false)) (fun K => pvv prog (oEq .neq 3 (.tmp 130) (.tmp 132) t_69 t_71) w K) w fun t_72 w =>
    pv prog (oPick t_67 (.bool true) t_72) w fun t_73 w =>
    cd t_73 (
      K (.bool false) w) <|
    lp (fun σ w again_75 => pop σ fun i_74 σ => fin σ <|
      pv prog (oBi .len #[65] 3 #[false] #[t_60]) w fun t_76 w =>
      pvv prog (binOp .lss 3 i_74 t_76) w fun t_77 w =>
      cd t_77 (
        dr w fun w =>
        pvv prog (Instr.indexAt 65 t_60 i_74) w fun t_78 w =>
        pvv prog (Instr.indexAt 65 (.slice ac cs.length cc) i_74) w fun t_79 w =>
        ldv prog (Instr.loadAt 9 t_78) w fun t_80 w =>
        ldv prog (Instr.loadAt 9 t_79) w fun t_81 w =>
        pvv prog (oEq .neq 9 (.tmp 144) (.tmp 148) t_80 t_81) w fun t_82 w =>
        cd t_82 (
          K (.bool false) w) <|
        pvv prog (binOp .add 3 i_74 (.int .i64 1)) w fun t_83 w =>
        again_75 [t_83] w) <|
      K (.bool true) w) [(.int .i64 0)] w)))))) := by
  have hkb := kb.toNat_lt
  have hLl := inv.len
  have hrl : (rowB cs).length = 1 + (colB cs).length := by simp [rowB]; omega
  refine Count_spec h ?_
  have h3 : L[3] = zeros := by
    have := inv.three
    rw [List.getElem?_eq_getElem (by omega)] at this
    exact Option.some.inj this
  refine Write_spec h (n := 3) (l := page) (by omega) hpl (by omega) (by rw [hpl]; exact Rds.own (v := .slice (some ⟨bp, 0, none⟩) 256 256)) fun w h => ?_
  rw [h3] at h
  have wf2 : Wf (L.set 3 page) (W ++ [(((3 : Nat) : Int), zeros)]) := by
    refine ⟨by simp; exact inv.wf.pos, by simp; exact inv.wf.le, fun m hm => ?_, fun p hp => ?_⟩
    · rcases List.mem_or_eq_of_mem_set hm with hm | rfl
      · exact inv.wf.l m hm
      · exact hpl
    · rw [List.length_set]
      rcases List.mem_append.1 hp with hp | hp
      · exact inv.wf.w p hp
      · simp only [List.mem_singleton] at hp; subst hp
        exact ⟨by simp, by simp only; omega, rfl⟩
  have hWl : (W ++ [(((3 : Nat) : Int), zeros)]).length = W.length + 1 := by simp
  simp only [↓o_nil, ↓o_field, ↓o_add, ↓o_sub, ↓o_mul, ↓o_lss, ↓o_leq, ↓o_gtr, ↓o_geq, ↓o_not, ↓o_pick, ↓o_eqInt, ↓o_neInt, ↓o_eqBool, ↓o_neBool, ↓o_eqPtr, ↓o_nePtr, ↓o_eqPtr', ↓o_eqSl, ↓o_neSl, ↓o_eqStr, ↓o_neStr, ↓o_len, ↓o_lenS, ↓o_min, ↓o_max, ↓o_extract, ↓o_convInt, ↓cd_true, ↓cd_false, ↓gate_tt, ↓gate_ff, ↓gate_tf, ↓gate_ft, ↓gate_undef, ↓pop_cons, ↓fin_nil, Option.isNone_none, Option.isNone_some, Bool.not_true, Bool.not_false, Nat.zero_add, decide_true, decide_false, if_true, if_false, Bool.false_eq_true, ↓reduceIte]
  refine Count_spec h ?_
  rw [hWl]
  simp only [↓o_nil, ↓o_field, ↓o_add, ↓o_sub, ↓o_mul, ↓o_lss, ↓o_leq, ↓o_gtr, ↓o_geq, ↓o_not, ↓o_pick, ↓o_eqInt, ↓o_neInt, ↓o_eqBool, ↓o_neBool, ↓o_eqPtr, ↓o_nePtr, ↓o_eqPtr', ↓o_eqSl, ↓o_neSl, ↓o_eqStr, ↓o_neStr, ↓o_len, ↓o_lenS, ↓o_min, ↓o_max, ↓o_extract, ↓o_convInt, ↓cd_true, ↓cd_false, ↓gate_tt, ↓gate_ff, ↓gate_tf, ↓gate_ft, ↓gate_undef, ↓pop_cons, ↓fin_nil, Option.isNone_none, Option.isNone_some, Bool.not_true, Bool.not_false, Nat.zero_add, decide_true, decide_false, if_true, if_false, Bool.false_eq_true, ↓reduceIte]
  rw [i64_of (n := (kb.toNat : Int)) (by omega) (by omega), i64_of (by omega) (by omega), o_rem (by omega)]
  obtain ⟨n, hn, hnW⟩ : ∃ n : Nat, (kb.toNat : Int).tmod (((W.length + 1 : Nat) : Int) + 1) = n ∧ n ≤ W.length + 1 := by
    refine ⟨kb.toNat % (W.length + 1 + 1), ?_, ?_⟩
    · rw [show ((W.length + 1 : Nat) : Int) + 1 = ((W.length + 1 + 1 : Nat) : Int) by omega, Int.ofNat_tmod]
    · have := Nat.mod_lt kb.toNat (show 0 < W.length + 1 + 1 by omega)
      omega
  rw [hn]
  refine Cut_spec h wf2 (by omega) (n := n) (by omega) fun c w h => ?_
  simp only [↓o_nil, ↓o_field, ↓o_add, ↓o_sub, ↓o_mul, ↓o_lss, ↓o_leq, ↓o_gtr, ↓o_geq, ↓o_not, ↓o_pick, ↓o_eqInt, ↓o_neInt, ↓o_eqBool, ↓o_neBool, ↓o_eqPtr, ↓o_nePtr, ↓o_eqPtr', ↓o_eqSl, ↓o_neSl, ↓o_eqStr, ↓o_neStr, ↓o_len, ↓o_lenS, ↓o_min, ↓o_max, ↓o_extract, ↓o_convInt, ↓cd_true, ↓cd_false, ↓gate_tt, ↓gate_ff, ↓gate_tf, ↓gate_ft, ↓gate_undef, ↓pop_cons, ↓fin_nil, Option.isNone_none, Option.isNone_some, Bool.not_true, Bool.not_false, Nat.zero_add, decide_true, decide_false, if_true, if_false, Bool.false_eq_true, ↓reduceIte]
  have hul : (undo (L.set 3 page) ((W ++ [(((3 : Nat) : Int), zeros)]).drop n)).length = 4 := by rw [undo_length, List.length_set, hLl]
  have hmem : (undo (L.set 3 page) ((W ++ [(((3 : Nat) : Int), zeros)]).drop n))[3]? = some (if n ≤ W.length then zeros else page) := by
    by_cases hc : n ≤ W.length
    · rw [if_pos hc, List.drop_append_of_le_length hc, undo_snoc, undo_three]
      · simp only [Int.toNat_natCast, List.set_set]
        rw [List.getElem?_set_self (by omega)]
      · exact fun p hp => ⟨(inv.wf.w p (List.mem_of_mem_drop hp)).1, inv.no3 p (List.mem_of_mem_drop hp)⟩
    · rw [if_neg hc, List.drop_eq_nil_of_le (by omega)]
      show (L.set 3 page)[3]? = _
      rw [List.getElem?_set_self (by omega)]
  generalize hg : (if n ≤ W.length then zeros else page) = got at hmem
  have hgl : got.length = 256 := by subst hg; split; rfl; exact hpl
  have hg3 : (undo (L.set 3 page) ((W ++ [(((3 : Nat) : Int), zeros)]).drop n))[3]'(by omega) = got := by
    rw [List.getElem?_eq_getElem (by omega)] at hmem
    exact Option.some.inj hmem
  refine Read_spec h (n := 3) (by omega) (by rw [hg3]; omega) fun vg w h => ?_
  rw [hg3] at h
  obtain ⟨bg, cg, sp, rfl, _, hcg, _, _⟩ := osl_open h (by omega)
  simp only [↓o_nil, ↓o_field, ↓o_add, ↓o_sub, ↓o_mul, ↓o_lss, ↓o_leq, ↓o_gtr, ↓o_geq, ↓o_not, ↓o_pick, ↓o_eqInt, ↓o_neInt, ↓o_eqBool, ↓o_neBool, ↓o_eqPtr, ↓o_nePtr, ↓o_eqPtr', ↓o_eqSl, ↓o_neSl, ↓o_eqStr, ↓o_neStr, ↓o_len, ↓o_lenS, ↓o_min, ↓o_max, ↓o_extract, ↓o_convInt, ↓cd_true, ↓cd_false, ↓gate_tt, ↓gate_ff, ↓gate_tf, ↓gate_ft, ↓gate_undef, ↓pop_cons, ↓fin_nil, Option.isNone_none, Option.isNone_some, Bool.not_true, Bool.not_false, Nat.zero_add, decide_true, decide_false, if_true, if_false, Bool.false_eq_true, ↓reduceIte]
  rw [hgl] at h hcg ⊢
  have hmin : min (((rowB cs).length : Nat) : Int) ((256 : Nat) : Int) = ((rowB cs).length : Nat) := by omega
  rw [hmin, o_slice_h (by omega) (by omega)]
  simp only [Int.toNat_natCast]
  have etl : (got.take (rowB cs).length).length = (rowB cs).length := by simp; omega
  have fin : ∀ {w : World} {X R : HP}, sat E w X → [Split X H R] → K (.bool true) w := fun {w X R} hX _ => k w (hX.split H).drop'
  refine Columns_spec h (l := got.take (rowB cs).length) (fun E w hs => ?_) (fun e w he hcol h => ?_) (fun v' ds w hcol h => ?_)
  · have := (Rds.own (v := .slice (some ⟨bg, 0, none⟩) 256 cg) E w hs).cut (lo := 0) (hi := (rowB cs).length) (by simp; omega) (by omega) (by omega)
    simp only [List.drop_zero, Nat.sub_zero] at this
    rw [etl, List.map_take]
    exact this
  · -- no row: an early cut
    have hc : n ≤ W.length := by
      rcases Nat.lt_or_ge W.length n with hh | hh
      · exfalso
        rw [if_neg (by omega)] at hg
        subst hg
        rw [← hpage, List.take_left] at hcol
        rw [cols_rowB cs h8 h70 h72] at hcol
        cases hcol
      · exact hh
    have hc' : (n : Int) ≤ (W.length : Nat) := by omega
    rw [if_pos hc] at hg
    simp only [hc', ↓o_nil, ↓o_field, ↓o_add, ↓o_sub, ↓o_mul, ↓o_lss, ↓o_leq, ↓o_gtr, ↓o_geq, ↓o_not, ↓o_pick, ↓o_eqInt, ↓o_neInt, ↓o_eqBool, ↓o_neBool, ↓o_eqPtr, ↓o_nePtr, ↓o_eqPtr', ↓o_eqSl, ↓o_neSl, ↓o_eqStr, ↓o_neStr, ↓o_len, ↓o_lenS, ↓o_min, ↓o_max, ↓o_extract, ↓o_convInt, ↓cd_true, ↓cd_false, ↓gate_tt, ↓gate_ff, ↓gate_tf, ↓gate_ft, ↓gate_undef, ↓pop_cons, ↓fin_nil, Option.isNone_none, Option.isNone_some, Bool.not_true, Bool.not_false, Nat.zero_add, decide_true, decide_false, if_true, if_false, Bool.false_eq_true, ↓reduceIte]
    rw [o_index (by omega) (by omega)]
    simp only [Int.toNat_zero, Nat.zero_mul, Nat.add_zero]
    refine ld_cell (v := .int .u8 0) (by
      have := (Rds.own (v := .slice (some ⟨bg, 0, none⟩) 256 cg) |>.win h).cell bg 0 rfl 0 (.int .u8 0) (by subst hg; rfl)
      simpa using this) ?_
    simp only [↓o_nil, ↓o_field, ↓o_add, ↓o_sub, ↓o_mul, ↓o_lss, ↓o_leq, ↓o_gtr, ↓o_geq, ↓o_not, ↓o_pick, ↓o_eqInt, ↓o_neInt, ↓o_eqBool, ↓o_neBool, ↓o_eqPtr, ↓o_nePtr, ↓o_eqPtr', ↓o_eqSl, ↓o_neSl, ↓o_eqStr, ↓o_neStr, ↓o_len, ↓o_lenS, ↓o_min, ↓o_max, ↓o_extract, ↓o_convInt, ↓cd_true, ↓cd_false, ↓gate_tt, ↓gate_ff, ↓gate_tf, ↓gate_ft, ↓gate_undef, ↓pop_cons, ↓fin_nil, Option.isNone_none, Option.isNone_some, Bool.not_true, Bool.not_false, Nat.zero_add, decide_true, decide_false, if_true, if_false, Bool.false_eq_true, ↓reduceIte]
    exact fin h
  · by_cases hc : n ≤ W.length
    · have hc' : (n : Int) ≤ (W.length : Nat) := by omega
      rw [if_pos hc] at hg
      obtain ⟨av, cv, rfl, _, _, _⟩ := osl_shape h
      simp only [hc', ↓o_nil, ↓o_field, ↓o_add, ↓o_sub, ↓o_mul, ↓o_lss, ↓o_leq, ↓o_gtr, ↓o_geq, ↓o_not, ↓o_pick, ↓o_eqInt, ↓o_neInt, ↓o_eqBool, ↓o_neBool, ↓o_eqPtr, ↓o_nePtr, ↓o_eqPtr', ↓o_eqSl, ↓o_neSl, ↓o_eqStr, ↓o_neStr, ↓o_len, ↓o_lenS, ↓o_min, ↓o_max, ↓o_extract, ↓o_convInt, ↓cd_true, ↓cd_false, ↓gate_tt, ↓gate_ff, ↓gate_tf, ↓gate_ft, ↓gate_undef, ↓pop_cons, ↓fin_nil, Option.isNone_none, Option.isNone_some, Bool.not_true, Bool.not_false, Nat.zero_add, decide_true, decide_false, if_true, if_false, Bool.false_eq_true, ↓reduceIte]
      rw [o_index (by omega) (by omega)]
      simp only [Int.toNat_zero, Nat.zero_mul, Nat.add_zero]
      refine ld_cell (v := .int .u8 0) (by
        have := (Rds.own (v := .slice (some ⟨bg, 0, none⟩) 256 cg) |>.win h).cell bg 0 rfl 0 (.int .u8 0) (by subst hg; rfl)
        simpa using this) ?_
      simp only [↓o_nil, ↓o_field, ↓o_add, ↓o_sub, ↓o_mul, ↓o_lss, ↓o_leq, ↓o_gtr, ↓o_geq, ↓o_not, ↓o_pick, ↓o_eqInt, ↓o_neInt, ↓o_eqBool, ↓o_neBool, ↓o_eqPtr, ↓o_nePtr, ↓o_eqPtr', ↓o_eqSl, ↓o_neSl, ↓o_eqStr, ↓o_neStr, ↓o_len, ↓o_lenS, ↓o_min, ↓o_max, ↓o_extract, ↓o_convInt, ↓cd_true, ↓cd_false, ↓gate_tt, ↓gate_ff, ↓gate_tf, ↓gate_ft, ↓gate_undef, ↓pop_cons, ↓fin_nil, Option.isNone_none, Option.isNone_some, Bool.not_true, Bool.not_false, Nat.zero_add, decide_true, decide_false, if_true, if_false, Bool.false_eq_true, ↓reduceIte]
      exact fin h
    · have hc' : ¬ (n : Int) ≤ (W.length : Nat) := by omega
      rw [if_neg hc] at hg
      have hds : ds = cs := by
        subst hg
        rw [← hpage, List.take_left, cols_rowB cs h8 h70 h72] at hcol
        exact (Option.some.inj hcol).symm
      subst hds
      obtain ⟨av, cv, rfl, _, _, hav⟩ := osl_shape h
      simp only [hc', ↓o_nil, ↓o_field, ↓o_add, ↓o_sub, ↓o_mul, ↓o_lss, ↓o_leq, ↓o_gtr, ↓o_geq, ↓o_not, ↓o_pick, ↓o_eqInt, ↓o_neInt, ↓o_eqBool, ↓o_neBool, ↓o_eqPtr, ↓o_nePtr, ↓o_eqPtr', ↓o_eqSl, ↓o_neSl, ↓o_eqStr, ↓o_neStr, ↓o_len, ↓o_lenS, ↓o_min, ↓o_max, ↓o_extract, ↓o_convInt, ↓cd_true, ↓cd_false, ↓gate_tt, ↓gate_ff, ↓gate_tf, ↓gate_ft, ↓gate_undef, ↓pop_cons, ↓fin_nil, Option.isNone_none, Option.isNone_some, Bool.not_true, Bool.not_false, Nat.zero_add, decide_true, decide_false, if_true, if_false, Bool.false_eq_true, ↓reduceIte]
      refine lp_nat (fun m σ w => ∃ i : Nat, σ = [.int .i64 i] ∧ m = ds.length - i ∧ i ≤ ds.length ∧ sat E w _) ds.length ⟨0, rfl, rfl, by omega, h⟩ ?_
      rintro m σ w again ⟨i, rfl, rfl, hi, h⟩ hag
      simp only [↓o_nil, ↓o_field, ↓o_add, ↓o_sub, ↓o_mul, ↓o_lss, ↓o_leq, ↓o_gtr, ↓o_geq, ↓o_not, ↓o_pick, ↓o_eqInt, ↓o_neInt, ↓o_eqBool, ↓o_neBool, ↓o_eqPtr, ↓o_nePtr, ↓o_eqPtr', ↓o_eqSl, ↓o_neSl, ↓o_eqStr, ↓o_neStr, ↓o_len, ↓o_lenS, ↓o_min, ↓o_max, ↓o_extract, ↓o_convInt, ↓cd_true, ↓cd_false, ↓gate_tt, ↓gate_ff, ↓gate_tf, ↓gate_ft, ↓gate_undef, ↓pop_cons, ↓fin_nil, Option.isNone_none, Option.isNone_some, Bool.not_true, Bool.not_false, Nat.zero_add, decide_true, decide_false, if_true, if_false, Bool.false_eq_true, ↓reduceIte]
      refine cd_dec (fun hlt => ?_) (fun hge => fin h)
      have hlt : i < ds.length := by omega
      refine dr_sl h fun w h _ => ?_
      obtain ⟨ba, rfl⟩ := hav (by omega)
      obtain ⟨b1, o1, rfl, hb1⟩ := win_cell (hcs.win ((h.split H).drop')) (j := i) (by simp; omega)
      rw [o_index (by omega) (by omega)]
      simp only [Int.toNat_natCast, Nat.mul_one]
      rw [o_index (by omega) (by omega)]
      simp only [Int.toNat_natCast, Nat.mul_one, Nat.zero_add]
      refine ld_cell (v := tv ds[i]) (by
        have := (Rds.own (v := .slice (some ⟨ba, 0, none⟩) ds.length cv) |>.win h).cell ba 0 rfl i (tv ds[i]) (by simp [List.getElem?_eq_getElem hlt])
        simpa using this) ?_
      refine ld_cell (v := tv ds[i]) (by simpa using hb1) ?_
      simp only [↓o_neT, ↓o_nil, ↓o_field, ↓o_add, ↓o_sub, ↓o_mul, ↓o_lss, ↓o_leq, ↓o_gtr, ↓o_geq, ↓o_not, ↓o_pick, ↓o_eqInt, ↓o_neInt, ↓o_eqBool, ↓o_neBool, ↓o_eqPtr, ↓o_nePtr, ↓o_eqPtr', ↓o_eqSl, ↓o_neSl, ↓o_eqStr, ↓o_neStr, ↓o_len, ↓o_lenS, ↓o_min, ↓o_max, ↓o_extract, ↓o_convInt, ↓cd_true, ↓cd_false, ↓gate_tt, ↓gate_ff, ↓gate_tf, ↓gate_ft, ↓gate_undef, ↓pop_cons, ↓fin_nil, Option.isNone_none, Option.isNone_some, Bool.not_true, Bool.not_false, Nat.zero_add, decide_true, decide_false, if_true, if_false, Bool.false_eq_true, ↓reduceIte]
      rw [i64_of (by omega) (by omega)]
      exact hag _ _ _ (by omega) ⟨i + 1, rfl, rfl, by omega, h⟩
theorem tail_spec {bb d : Nat} {cb : Nat} {ac : Option Addr} {cc : Nat} {ao : Option Addr} {co : Nat} (cs : List (List UInt8)) (hcs : Rds H (.slice ac cs.length cc) cs.length (cs.map tv)) (os : List UInt8) (hos : Rds H (.slice ao os.length co) os.length (os.map bv)) (hmo : os.length ≤ 9223372036854775807) (kb : UInt8)
    (h8 : cs.length ≤ 8) (h70 : ∀ c ∈ cs, c.length ≤ 70) (h72 : (rowB cs).length ≤ 72)
    (h : sat E w (osl 5 1 (.slice (some ⟨bb, 0, none⟩) (rowB cs).length cb) (rowB cs).length ((rowB cs).map bv) * (dsk d (List.replicate 4 zeros) [] * H))) (k : ∀ w', sat E w' H → K (.bool true) w') :
  efv prog (Instr.makeSlice 32 (.int .i64 256) (.int .i64 256)) w fun t_22 w =>
  ef prog (oBi .copy #[32, 32] 3 #[false, false] #[t_22, (.slice (some ⟨bb, 0, none⟩) (rowB cs).length cb)]) w fun t_23 w =>
  lp (fun σ w again_25 => pop σ fun i_24 σ => fin σ <|
    pv prog (oBi .len #[32] 3 #[false] #[(.slice ao os.length co)]) w fun t_26 w =>
    pvv prog (binOp .lss 3 i_24 t_26) w fun t_27 w =>
    gate (some (t_27, true)) (fun K => K i_24 w) w fun t_28 w =>
    gate (some (t_27, true)) (fun K => pvv prog (binOp .lss 3 t_28 (.int .i64 20)) w K) w fun t_29 w =>
    pv prog (oPick t_27 t_29 (.bool false)) w fun t_30 w =>
    cd t_30 (
      efv prog (Instr.makeSlice 32 (.int .i64 256) (.int .i64 256)) w fun t_31 w =>
      pvv prog (Instr.indexAt 32 (.slice ao os.length co) i_24) w fun t_32 w =>
      ldv prog (Instr.loadAt 5 t_32) w fun t_33 w =>
      pvv prog (Instr.indexAt 32 t_31 (.int .i64 0)) w fun t_34 w =>
      efu prog (Instr.storeAt 5 t_34 t_33) w fun u_35 w =>
      pvv prog (Instr.indexAt 32 (.slice ao os.length co) i_24) w fun t_36 w =>
      ldv prog (Instr.loadAt 5 t_36) w fun t_37 w =>
      pvv prog (convert 5 3 t_37) w fun t_38 w =>
      pvv prog (binOp .rem 3 t_38 (.int .i64 3)) w fun t_39 w =>
      Calls prog 16 #[(.pointer (some ⟨d, 0, none⟩)), t_39, t_31] w (Ret fun t_40 w =>
      pvv prog (binOp .add 3 i_24 (.int .i64 1)) w fun t_41 w =>
      again_25 [t_41] w)) <|
    Calls prog 22 #[(.pointer (some ⟨d, 0, none⟩))] w (Ret fun t_42 w =>
    Calls prog 16 #[(.pointer (some ⟨d, 0, none⟩)), (.int .i64 3), t_22] w (Ret fun t_43 w =>
    pvv prog (oEq .neq 34 (.tmp 87) (.const (.int .i64 0)) t_43 (.int .i64 0)) w fun t_44 w =>
    cd t_44 (
      K (.bool false) w) <|
    pvv prog (convert 5 3 (.int .u8 kb.toNat)) w fun t_45 w =>
    Calls prog 22 #[(.pointer (some ⟨d, 0, none⟩))] w (Ret fun t_46 w =>
    pvv prog (binOp .add 3 t_46 (.int .i64 1)) w fun t_47 w =>
    pvv prog (binOp .rem 3 t_45 t_47) w fun t_48 w =>
    Calls prog 29 #[(.pointer (some ⟨d, 0, none⟩)), t_48] w (Ret fun t_49 w =>
    pvv prog (Instr.extract t_49 0) w fun t_50 w =>
    pvv prog (Instr.extract t_49 1) w fun t_51 w =>
    Calls prog 18 #[t_50, (.int .i64 3)] w (Ret fun t_52 w =>
    pvv prog (Instr.extract t_52 0) w fun t_53 w =>
    pvv prog (Instr.extract t_52 1) w fun t_54 w =>
    pv prog (oBi .len #[32] 3 #[false] #[(.slice (some ⟨bb, 0, none⟩) (rowB cs).length cb)]) w fun t_55 w =>
    pv prog (oBi .len #[32] 3 #[false] #[t_53]) w fun t_56 w =>
    pv prog (oBi .min #[3, 3] 3 #[false, false] #[t_55, t_56]) w fun t_57 w =>
    pvv prog (Instr.sliceAt 32 t_53 none (some t_57) none) w fun t_58 w =>
    Calls prog 37 #[t_58] w (Ret fun t_59 w =>
    pvv prog (Instr.extract t_59 0) w fun t_60 w =>
    pvv prog (Instr.extract t_59 1) w fun t_61 w =>
    pvv prog (oEq .neq 34 (.tmp 117) (.const (.int .i64 0)) t_54 (.int .i64 0)) w fun t_62 w =>
    cd t_62 (
      K (.bool false) w) <|
    pvv prog (binOp .leq 3 t_48 t_42) w fun t_63 w =>
    cd t_63 (
      pvv prog (Instr.indexAt 32 t_53 (.int .i64 0)) w fun t_64 w =>
      ldv prog (Instr.loadAt 5 t_64) w fun t_65 w =>
      pvv prog (oEq .eql 5 (.tmp 124) (.const (.int .u8 0)) t_65 (.int .u8 0)) w fun t_66 w =>
      K t_66 w) <|
    pvv prog (oEq .neq 34 (.tmp 126) (.const (.int .i64 0)) t_61 (.int .i64 0)) w fun t_67 w =>
    gate (some (t_67, false)) (fun K => K t_60 w) w fun t_68 w =>
    gate (some (t_67, false)) (fun K => pv prog (oBi .len #[65] 3 #[false] #[t_68]) w K) w fun t_69 w =>
    gate (some (t_67, false)) (fun K => K (.slice ac cs.length cc) w) w fun t_70 w =>
    gate (some (t_67, false)) (fun K => pv prog (oBi .len #[65] 3 #[false] #[t_70]) w K) w fun t_71 w =>
    gate (some (t_67, false)) (fun K => pvv prog (oEq .neq 3 (.tmp 130) (.tmp 132) t_69 t_71) w K) w fun t_72 w =>
    pv prog (oPick t_67 (.bool true) t_72) w fun t_73 w =>
    cd t_73 (
      K (.bool false) w) <|
    lp (fun σ w again_75 => pop σ fun i_74 σ => fin σ <|
      pv prog (oBi .len #[65] 3 #[false] #[t_60]) w fun t_76 w =>
      pvv prog (binOp .lss 3 i_74 t_76) w fun t_77 w =>
      cd t_77 (
        dr w fun w =>
        pvv prog (Instr.indexAt 65 t_60 i_74) w fun t_78 w =>
        pvv prog (Instr.indexAt 65 (.slice ac cs.length cc) i_74) w fun t_79 w =>
        ldv prog (Instr.loadAt 9 t_78) w fun t_80 w =>
        ldv prog (Instr.loadAt 9 t_79) w fun t_81 w =>
        pvv prog (oEq .neq 9 (.tmp 144) (.tmp 148) t_80 t_81) w fun t_82 w =>
        cd t_82 (
          K (.bool false) w) <|
        pvv prog (binOp .add 3 i_74 (.int .i64 1)) w fun t_83 w =>
        again_75 [t_83] w) <|
      K (.bool true) w) [(.int .i64 0)] w))))))) [(.int .i64 0)] w := by
  have hkb := kb.toNat_lt
  have hrl : (rowB cs).length = 1 + (colB cs).length := by simp [rowB]; omega
  refine make_sl h rfl (by omega) (by omega) (by omega) (by omega) fun bp w h => ?_
  have e3 : (256 : Int).toNat = 256 := rfl
  rw [e3] at h ⊢
  have h := osl_of (n := 256) (sz := 1) h (by simp) (by omega)
  refine copy_sl h (news := (rowB cs).map bv) (by simp) ((Rds.own (v := .slice (some ⟨bb, 0, none⟩) (rowB cs).length cb)).win h) (bv_one _) (by omega) fun w h => ?_
  have epage : (rowB cs).map bv ++ (List.replicate 256 (Value.int .u8 0)).drop (rowB cs).length = (rowB cs ++ zeros.drop (rowB cs).length).map bv := by
    rw [zeros_map]; simp [List.map_drop]
  rw [epage] at h
  have hpl : (rowB cs ++ zeros.drop (rowB cs).length).length = 256 := by simp [zeros]; omega
  generalize hpage : rowB cs ++ zeros.drop (rowB cs).length = page at h hpl
  refine lp_nat (fun m σ w => ∃ (i : Nat) (L : List (List UInt8)) (W : List (Int × List UInt8)), σ = [.int .i64 i] ∧ m = 20 - i ∧ i ≤ 20 ∧ W.length ≤ i ∧ TInv L W ∧
    sat E w (dsk d L W * (osl 5 1 (.slice (some ⟨bp, 0, none⟩) 256 256) 256 (page.map bv) * (osl 5 1 (.slice (some ⟨bb, 0, none⟩) (rowB cs).length cb) (rowB cs).length ((rowB cs).map bv) * H)))) 20 ⟨0, _, [], rfl, rfl, by omega, by simp, TInv.start, h.perm (by ac_rfl)⟩ ?_
  rintro m σ w again ⟨i, L, W, rfl, rfl, hi, hW, inv, h⟩ hag
  have hLl := inv.len
  simp only [↓o_nil, ↓o_field, ↓o_add, ↓o_sub, ↓o_mul, ↓o_lss, ↓o_leq, ↓o_gtr, ↓o_geq, ↓o_not, ↓o_pick, ↓o_eqInt, ↓o_neInt, ↓o_eqBool, ↓o_neBool, ↓o_eqPtr, ↓o_nePtr, ↓o_eqPtr', ↓o_eqSl, ↓o_neSl, ↓o_eqStr, ↓o_neStr, ↓o_len, ↓o_lenS, ↓o_min, ↓o_max, ↓o_extract, ↓o_convInt, ↓cd_true, ↓cd_false, ↓gate_tt, ↓gate_ff, ↓gate_tf, ↓gate_ft, ↓gate_undef, ↓pop_cons, ↓fin_nil, Option.isNone_none, Option.isNone_some, Bool.not_true, Bool.not_false, Nat.zero_add, decide_true, decide_false, if_true, if_false, Bool.false_eq_true, ↓reduceIte]
  by_cases hgo : (i : Int) < (os.length : Nat) ∧ (i : Int) < 20
  · obtain ⟨g1, g2⟩ := hgo
    simp only [g1, g2, ↓o_nil, ↓o_field, ↓o_add, ↓o_sub, ↓o_mul, ↓o_lss, ↓o_leq, ↓o_gtr, ↓o_geq, ↓o_not, ↓o_pick, ↓o_eqInt, ↓o_neInt, ↓o_eqBool, ↓o_neBool, ↓o_eqPtr, ↓o_nePtr, ↓o_eqPtr', ↓o_eqSl, ↓o_neSl, ↓o_eqStr, ↓o_neStr, ↓o_len, ↓o_lenS, ↓o_min, ↓o_max, ↓o_extract, ↓o_convInt, ↓cd_true, ↓cd_false, ↓gate_tt, ↓gate_ff, ↓gate_tf, ↓gate_ft, ↓gate_undef, ↓pop_cons, ↓fin_nil, Option.isNone_none, Option.isNone_some, Bool.not_true, Bool.not_false, Nat.zero_add, decide_true, decide_false, if_true, if_false, Bool.false_eq_true, ↓reduceIte]
    have hlt : i < os.length := by omega
    refine make_sl h rfl (by omega) (by omega) (by omega) (by omega) fun bx w h => ?_
    rw [e3] at h ⊢
    have h := osl_of (n := 256) (sz := 1) h (by simp) (by omega)
    obtain ⟨b1, o1, e1, hb1⟩ := win_cell (hos.win ((h.split H).drop')) (j := i) (by simp; omega)
    subst e1
    rw [o_index (by omega) (by omega)]
    simp only [Int.toNat_natCast, Nat.mul_one]
    have c0 : ∀ {w : World} {X R : HP}, sat E w X → [Split X H R] → w.cell? ⟨b1, o1 + i, none⟩ = some (bv os[i]) := fun {w X R} hX _ => by
      have := (hos.win ((hX.split H).drop')).cell b1 o1 rfl i (bv os[i]) (by simp [List.getElem?_eq_getElem hlt])
      exact this
    refine ld_cell (c0 h) ?_
    rw [o_index (by omega) (by omega)]
    simp only [Int.toNat_zero, Nat.zero_mul, Nat.add_zero]
    refine osl_store h (c := 256) (n := 256) (i := 0) (u := bv os[i]) (by omega) (by rfl) fun w h => ?_
    rw [o_index (by omega) (by omega)]
    simp only [Int.toNat_natCast, Nat.mul_one]
    refine ld_cell (c0 h) ?_
    have ho := os[i].toNat_lt
    simp only [bv, ↓o_nil, ↓o_field, ↓o_add, ↓o_sub, ↓o_mul, ↓o_lss, ↓o_leq, ↓o_gtr, ↓o_geq, ↓o_not, ↓o_pick, ↓o_eqInt, ↓o_neInt, ↓o_eqBool, ↓o_neBool, ↓o_eqPtr, ↓o_nePtr, ↓o_eqPtr', ↓o_eqSl, ↓o_neSl, ↓o_eqStr, ↓o_neStr, ↓o_len, ↓o_lenS, ↓o_min, ↓o_max, ↓o_extract, ↓o_convInt, ↓cd_true, ↓cd_false, ↓gate_tt, ↓gate_ff, ↓gate_tf, ↓gate_ft, ↓gate_undef, ↓pop_cons, ↓fin_nil, Option.isNone_none, Option.isNone_some, Bool.not_true, Bool.not_false, Nat.zero_add, decide_true, decide_false, if_true, if_false, Bool.false_eq_true, ↓reduceIte]
    rw [i64_of (by omega) (by omega), o_rem (by omega)]
    have em : ((os[i].toNat : Int)).tmod 3 = ((os[i].toNat % 3 : Nat) : Int) := by rw [show (3 : Int) = ((3 : Nat) : Int) from rfl, Int.ofNat_tmod]
    have hm3 := Nat.mod_lt os[i].toNat (show 0 < 3 by omega)
    rw [em]
    have ex : (List.replicate 256 (Value.int .u8 0)).set 0 (.int .u8 os[i].toNat) = (os[i] :: List.replicate 255 0).map bv := by
      rw [show (256 : Nat) = 255 + 1 from rfl, List.replicate_succ, List.set_cons_zero, List.map_cons, List.map_replicate]; rfl
    rw [show bv os[i] = Value.int .u8 os[i].toNat from rfl, ex] at h
    refine Write_spec h (n := os[i].toNat % 3) (l := os[i] :: List.replicate 255 0) (by omega) (by simp) (by omega) (Rds.own (v := .slice (some ⟨bx, 0, none⟩) 256 256)) fun w h => ?_
    rw [i64_of (by omega) (by omega)]
    have hst := inv.step (n := os[i].toNat % 3) hm3 (l := os[i] :: List.replicate 255 0) (by simp) (by omega)
    refine hag _ _ _ (by omega) ⟨i + 1, _, _, rfl, rfl, by omega, ?_, hst, (h.perm (Q := osl 5 1 (.slice (some ⟨bx, 0, none⟩) 256 256) 256 ((os[i] :: List.replicate 255 0).map bv) * (dsk d (L.set (os[i].toNat % 3) (os[i] :: List.replicate 255 0)) (W ++ [(((os[i].toNat % 3 : Nat) : Int), L[os[i].toNat % 3]'(by omega))]) * (osl 5 1 (.slice (some ⟨bp, 0, none⟩) 256 256) 256 (page.map bv) * (osl 5 1 (.slice (some ⟨bb, 0, none⟩) (rowB cs).length cb) (rowB cs).length ((rowB cs).map bv) * H)))) (by ac_rfl)).drop⟩
    simp; omega
  · have stop : sat E w (dsk d L W * (osl 5 1 (.slice (some ⟨bp, 0, none⟩) 256 256) 256 (page.map bv) * (osl 5 1 (.slice (some ⟨bb, 0, none⟩) (rowB cs).length cb) (rowB cs).length ((rowB cs).map bv) * H))) := h
    by_cases g1 : (i : Int) < (os.length : Nat)
    · have g2 : ¬ (i : Int) < 20 := by omega
      simp only [g1, g2, ↓o_nil, ↓o_field, ↓o_add, ↓o_sub, ↓o_mul, ↓o_lss, ↓o_leq, ↓o_gtr, ↓o_geq, ↓o_not, ↓o_pick, ↓o_eqInt, ↓o_neInt, ↓o_eqBool, ↓o_neBool, ↓o_eqPtr, ↓o_nePtr, ↓o_eqPtr', ↓o_eqSl, ↓o_neSl, ↓o_eqStr, ↓o_neStr, ↓o_len, ↓o_lenS, ↓o_min, ↓o_max, ↓o_extract, ↓o_convInt, ↓cd_true, ↓cd_false, ↓gate_tt, ↓gate_ff, ↓gate_tf, ↓gate_ft, ↓gate_undef, ↓pop_cons, ↓fin_nil, Option.isNone_none, Option.isNone_some, Bool.not_true, Bool.not_false, Nat.zero_add, decide_true, decide_false, if_true, if_false, Bool.false_eq_true, ↓reduceIte]
      have ht := end_spec cs hcs kb h8 h70 h72 hpage hpl inv (by omega) h k
      simp only [↓o_nil, ↓o_field, ↓o_add, ↓o_sub, ↓o_mul, ↓o_lss, ↓o_leq, ↓o_gtr, ↓o_geq, ↓o_not, ↓o_pick, ↓o_eqInt, ↓o_neInt, ↓o_eqBool, ↓o_neBool, ↓o_eqPtr, ↓o_nePtr, ↓o_eqPtr', ↓o_eqSl, ↓o_neSl, ↓o_eqStr, ↓o_neStr, ↓o_len, ↓o_lenS, ↓o_min, ↓o_max, ↓o_extract, ↓o_convInt, ↓cd_true, ↓cd_false, ↓gate_tt, ↓gate_ff, ↓gate_tf, ↓gate_ft, ↓gate_undef, ↓pop_cons, ↓fin_nil, Option.isNone_none, Option.isNone_some, Bool.not_true, Bool.not_false, Nat.zero_add, decide_true, decide_false, if_true, if_false, Bool.false_eq_true, ↓reduceIte] at ht
      exact ht
    · simp only [g1, ↓o_nil, ↓o_field, ↓o_add, ↓o_sub, ↓o_mul, ↓o_lss, ↓o_leq, ↓o_gtr, ↓o_geq, ↓o_not, ↓o_pick, ↓o_eqInt, ↓o_neInt, ↓o_eqBool, ↓o_neBool, ↓o_eqPtr, ↓o_nePtr, ↓o_eqPtr', ↓o_eqSl, ↓o_neSl, ↓o_eqStr, ↓o_neStr, ↓o_len, ↓o_lenS, ↓o_min, ↓o_max, ↓o_extract, ↓o_convInt, ↓cd_true, ↓cd_false, ↓gate_tt, ↓gate_ff, ↓gate_tf, ↓gate_ft, ↓gate_undef, ↓pop_cons, ↓fin_nil, Option.isNone_none, Option.isNone_some, Bool.not_true, Bool.not_false, Nat.zero_add, decide_true, decide_false, if_true, if_false, Bool.false_eq_true, ↓reduceIte]
      have ht := end_spec cs hcs kb h8 h70 h72 hpage hpl inv (by omega) h k
      simp only [↓o_nil, ↓o_field, ↓o_add, ↓o_sub, ↓o_mul, ↓o_lss, ↓o_leq, ↓o_gtr, ↓o_geq, ↓o_not, ↓o_pick, ↓o_eqInt, ↓o_neInt, ↓o_eqBool, ↓o_neBool, ↓o_eqPtr, ↓o_nePtr, ↓o_eqPtr', ↓o_eqSl, ↓o_neSl, ↓o_eqStr, ↓o_neStr, ↓o_len, ↓o_lenS, ↓o_min, ↓o_max, ↓o_extract, ↓o_convInt, ↓cd_true, ↓cd_false, ↓gate_tt, ↓gate_ff, ↓gate_tf, ↓gate_ft, ↓gate_undef, ↓pop_cons, ↓fin_nil, Option.isNone_none, Option.isNone_some, Bool.not_true, Bool.not_false, Nat.zero_add, decide_true, decide_false, if_true, if_false, Bool.false_eq_true, ↓reduceIte] at ht
      exact ht

theorem Top_spec (h : sat E w H) {cv ov : Value} (cs : List (List UInt8)) (hcs : Rds H cv cs.length (cs.map tv)) (hm : cs.length ≤ 9223372036854775807) (os : List UInt8) (hos : Rds H ov os.length (os.map bv)) (hmo : os.length ≤ 9223372036854775807) (kb : UInt8)
    (k : ∀ w', sat E w' H → K (.bool true) w') : Calls prog 11 #[cv, ov, bv kb] w (Ret K) := by
  obtain ⟨ac, cc, rfl, hcc, hcs, _⟩ := hcs.shape h
  obtain ⟨ao, co, rfl, hco, hos, _⟩ := hos.shape h
  have hkb := kb.toNat_lt
  refine c11 ?_
  unfold B11
  refine New_spec h (n := 4) (by omega) (by omega) fun d w h => ?_
  simp only [↓o_nil, ↓o_field, ↓o_add, ↓o_sub, ↓o_mul, ↓o_lss, ↓o_leq, ↓o_gtr, ↓o_geq, ↓o_not, ↓o_pick, ↓o_eqInt, ↓o_neInt, ↓o_eqBool, ↓o_neBool, ↓o_eqPtr, ↓o_nePtr, ↓o_eqPtr', ↓o_eqSl, ↓o_neSl, ↓o_eqStr, ↓o_neStr, ↓o_len, ↓o_lenS, ↓o_min, ↓o_max, ↓o_extract, ↓o_convInt, ↓cd_true, ↓cd_false, ↓gate_tt, ↓gate_ff, ↓gate_tf, ↓gate_ft, ↓gate_undef, ↓pop_cons, ↓fin_nil, Option.isNone_none, Option.isNone_some, Bool.not_true, Bool.not_false, Nat.zero_add, decide_true, decide_false, if_true, if_false, Bool.false_eq_true, ↓reduceIte]
  refine Row_spec h (Rds.under hcs) hm (fun e w he hpos h => ?_) (fun v w h8 h70 h72 h => ?_)
  · have h0 : ¬ (cs.length : Int) = 0 := by omega
    have hz : ((0 : Nat) : Int) = 0 := rfl
    simp only [h0, he, hz, ↓o_nil, ↓o_field, ↓o_add, ↓o_sub, ↓o_mul, ↓o_lss, ↓o_leq, ↓o_gtr, ↓o_geq, ↓o_not, ↓o_pick, ↓o_eqInt, ↓o_neInt, ↓o_eqBool, ↓o_neBool, ↓o_eqPtr, ↓o_nePtr, ↓o_eqPtr', ↓o_eqSl, ↓o_neSl, ↓o_eqStr, ↓o_neStr, ↓o_len, ↓o_lenS, ↓o_min, ↓o_max, ↓o_extract, ↓o_convInt, ↓cd_true, ↓cd_false, ↓gate_tt, ↓gate_ff, ↓gate_tf, ↓gate_ft, ↓gate_undef, ↓pop_cons, ↓fin_nil, Option.isNone_none, Option.isNone_some, Bool.not_true, Bool.not_false, Nat.zero_add, decide_true, decide_false, if_true, if_false, Bool.false_eq_true, ↓reduceIte]
    exact k w (h.split H).drop'
  · have hrl : (rowB cs).length = 1 + (colB cs).length := by simp [rowB]; omega
    obtain ⟨ab, cb, rfl, _, _, hab⟩ := osl_shape h
    obtain ⟨bb, rfl⟩ := hab (by omega)
    by_cases h0 : (cs.length : Int) = 0
    · have hnil : cs = [] := List.eq_nil_of_length_eq_zero (by omega)
      have h1 : (((rowB cs).length : Nat) : Int) = 1 := by rw [hnil]; rfl
      simp only [h0, h1, bv, ↓o_nil, ↓o_field, ↓o_add, ↓o_sub, ↓o_mul, ↓o_lss, ↓o_leq, ↓o_gtr, ↓o_geq, ↓o_not, ↓o_pick, ↓o_eqInt, ↓o_neInt, ↓o_eqBool, ↓o_neBool, ↓o_eqPtr, ↓o_nePtr, ↓o_eqPtr', ↓o_eqSl, ↓o_neSl, ↓o_eqStr, ↓o_neStr, ↓o_len, ↓o_lenS, ↓o_min, ↓o_max, ↓o_extract, ↓o_convInt, ↓cd_true, ↓cd_false, ↓gate_tt, ↓gate_ff, ↓gate_tf, ↓gate_ft, ↓gate_undef, ↓pop_cons, ↓fin_nil, Option.isNone_none, Option.isNone_some, Bool.not_true, Bool.not_false, Nat.zero_add, decide_true, decide_false, if_true, if_false, Bool.false_eq_true, ↓reduceIte]
      have ht := tail_spec cs hcs os hos hmo kb h8 h70 h72 h k
      simp only [h0, h1, ↓o_nil, ↓o_field, ↓o_add, ↓o_sub, ↓o_mul, ↓o_lss, ↓o_leq, ↓o_gtr, ↓o_geq, ↓o_not, ↓o_pick, ↓o_eqInt, ↓o_neInt, ↓o_eqBool, ↓o_neBool, ↓o_eqPtr, ↓o_nePtr, ↓o_eqPtr', ↓o_eqSl, ↓o_neSl, ↓o_eqStr, ↓o_neStr, ↓o_len, ↓o_lenS, ↓o_min, ↓o_max, ↓o_extract, ↓o_convInt, ↓cd_true, ↓cd_false, ↓gate_tt, ↓gate_ff, ↓gate_tf, ↓gate_ft, ↓gate_undef, ↓pop_cons, ↓fin_nil, Option.isNone_none, Option.isNone_some, Bool.not_true, Bool.not_false, Nat.zero_add, decide_true, decide_false, if_true, if_false, Bool.false_eq_true, ↓reduceIte] at ht
      exact ht
    · simp only [h0, bv, ↓o_nil, ↓o_field, ↓o_add, ↓o_sub, ↓o_mul, ↓o_lss, ↓o_leq, ↓o_gtr, ↓o_geq, ↓o_not, ↓o_pick, ↓o_eqInt, ↓o_neInt, ↓o_eqBool, ↓o_neBool, ↓o_eqPtr, ↓o_nePtr, ↓o_eqPtr', ↓o_eqSl, ↓o_neSl, ↓o_eqStr, ↓o_neStr, ↓o_len, ↓o_lenS, ↓o_min, ↓o_max, ↓o_extract, ↓o_convInt, ↓cd_true, ↓cd_false, ↓gate_tt, ↓gate_ff, ↓gate_tf, ↓gate_ft, ↓gate_undef, ↓pop_cons, ↓fin_nil, Option.isNone_none, Option.isNone_some, Bool.not_true, Bool.not_false, Nat.zero_add, decide_true, decide_false, if_true, if_false, Bool.false_eq_true, ↓reduceIte]
      have ht := tail_spec cs hcs os hos hmo kb h8 h70 h72 h k
      simp only [↓o_nil, ↓o_field, ↓o_add, ↓o_sub, ↓o_mul, ↓o_lss, ↓o_leq, ↓o_gtr, ↓o_geq, ↓o_not, ↓o_pick, ↓o_eqInt, ↓o_neInt, ↓o_eqBool, ↓o_neBool, ↓o_eqPtr, ↓o_nePtr, ↓o_eqPtr', ↓o_eqSl, ↓o_neSl, ↓o_eqStr, ↓o_neStr, ↓o_len, ↓o_lenS, ↓o_min, ↓o_max, ↓o_extract, ↓o_convInt, ↓cd_true, ↓cd_false, ↓gate_tt, ↓gate_ff, ↓gate_tf, ↓gate_ft, ↓gate_undef, ↓pop_cons, ↓fin_nil, Option.isNone_none, Option.isNone_some, Bool.not_true, Bool.not_false, Nat.zero_add, decide_true, decide_false, if_true, if_false, Bool.false_eq_true, ↓reduceIte] at ht
      exact ht
theorem open_texts {H : Type} {enc : TypeId × Value → H} {W : World} {r : Reach} {b0 : Nat} {v : Value} {d : DataW H} {p : List MemPlace}
    (hv : Value.okWide prog W r b0 65 v) (h : DataW.Trod enc prog W 0 (fun _ => true) true 65 v d p) : ∃ cs : List (List UInt8), Rds (old W) v cs.length (cs.map tv) ∧ cs.length ≤ 9223372036854775807 :=
  open_textsG (t := 65) (e := 9) (by kernel_rfl) (by kernel_rfl) (by kernel_rfl) hv h
theorem open_bytes {H : Type} {enc : TypeId × Value → H} {W : World} {r : Reach} {b0 : Nat} {v : Value} {d : DataW H} {p : List MemPlace}
    (hv : Value.okWide prog W r b0 32 v) (h : DataW.Trod enc prog W 0 (fun _ => true) true 32 v d p) : ∃ l : List UInt8, Rds (old W) v l.length (l.map bv) ∧ l.length ≤ 9223372036854775807 :=
  open_bytesG (t := 32) (e := 5) (by kernel_rfl) (by kernel_rfl) (by kernel_rfl) hv h
theorem walk (W : World) {H : Type} (enc : TypeId × Value → H) (args : Array Value) (ds : List (DataW H)) (ps : List MemPlace)
    (hval : ∀ (j : Nat) t v, Try.f11.params.toList[j]? = some t → args.toList[j]? = some v → ∃ base, Value.okWide Try.checked.prog W .any base t v)
    (hA : DataW.TrodAll enc Try.checked.prog W 0 (fun _ => true) true Try.f11.params.toList args.toList ds ps) :
    Calls Try.checked.prog 11 args W (Ret fun v W' => v = .bool true ∧ Below W.heap.size W W') := by
  rw [show Try.f11.params.toList = [65, 32, 5] by kernel_rfl] at hval hA
  obtain ⟨v0, vs0, d0, ds0, p0, q0, hargs, rfl, rfl, h0, r0'⟩ := trodAll_cons hA
  obtain ⟨v1, vs1, d1, ds1, p1, q1, rfl, rfl, rfl, h1, r1'⟩ := trodAll_cons r0'
  obtain ⟨v2, vs2, d2, ds2, p2, q2, rfl, rfl, rfl, h2, r2'⟩ := trodAll_cons r1'
  obtain ⟨rfl, rfl, rfl⟩ := trodAll_nil r2'
  obtain rfl : args = #[v0, v1, v2] := by cases args; simp_all
  obtain ⟨b0, o0⟩ := hval 0 65 v0 rfl rfl
  obtain ⟨b1, o1⟩ := hval 1 32 v1 rfl rfl
  obtain ⟨b2, o2⟩ := hval 2 5 v2 rfl rfl
  obtain ⟨x0, rx0, mx0⟩ := open_texts o0 h0
  obtain ⟨x1, rx1, mx1⟩ := open_bytes o1 h1
  obtain ⟨x2, rfl⟩ := open_u8 o2 h2
  exact Top_spec (sat.start W) x0 rx0 mx0 x1 rx1 mx1 x2 fun w' h => ⟨rfl, sat.below (h.whole)⟩

theorem lifted (os : Os) (started : os.Started) (H : Type) (enc : TypeId × Value → H) :
    ReturnsInHanded {} Try.checked os 11 .any (Rows.topBlocksSpec.pre6 enc Try.prog Try.f11 Rows.topBlocksRow.domain false) (Rows.topBlocksSpec.post enc Try.prog Try.f11 false true false false) := by
  refine law_lifted (C := Try.checked) (tb := 4) (by kernel_rfl) started (by kernel_rfl) Try.func11
    (ChangeSpec.witness6 (enc := enc) (C := Try.checked) false ⟨#[], #[.slice none 0 0, .slice none 0 0, .int .u8 0], []⟩ 8 (by kernel_rfl) (by kernel_rfl) (by kernel_rfl) (by kernel_rfl))
    (by kernel_rfl) (by kernel_rfl) (by kernel_rfl) (by kernel_rfl) rfl ?_ ?_
  · intro ds hd
    rw [show Try.f11.params.toList = [65, 32, 5] by kernel_rfl] at hd
    match ds, hd with
    | [a0, a1, a2], _ => rfl
  · exact fun W args ds ps => walk W enc args ds ps

theorem proved : Rows.TopBlocksSaid :=
  OpenClaim.holds_of_wide 11 Try.f11 rfl rfl rfl rfl rfl rfl rfl ⟨rfl, rfl, rfl, rfl, rfl⟩ rfl rfl rfl rfl rfl (by kernel_rfl) Try.func11 (by kernel_rfl)
    (of_decide_eq_true (by kernel_rfl)) (by unfold Func.isWrapper; first | (rw [if_pos (by decide +kernel)]; kernel_rfl) | (rw [if_neg (by decide +kernel)]; exact ⟨rfl, rfl⟩))
    (fun os started H enc _ => lifted os started H enc)
#print axioms proved
end Go.Proofs.Yteplajobjlehlaa.Top
