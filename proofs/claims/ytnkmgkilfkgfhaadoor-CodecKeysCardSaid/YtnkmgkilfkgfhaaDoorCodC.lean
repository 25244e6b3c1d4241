/-
  Noughts replaced; keys.
-/
import Derived.Test.YtnkmgkilfkgfhaaDoorCodA
set_option linter.all false
set_option maxRecDepth 10000
namespace Go.Proofs.YtnkmgkilfkgfhaaDoor
open Go Hold
variable {E : World0} {w : World} {H R : HP} {K : Value → World → Prop}
def esc1 (c : UInt8) : List UInt8 := if c = 0 then [0, 255] else [c]
def esc (s : List UInt8) : List UInt8 := s.flatMap esc1
theorem esc_append (a b : List UInt8) : esc (a ++ b) = esc a ++ esc b := by simp [esc]
theorem esc_none : ∀ {s : List UInt8}, s.count 0 = 0 → esc s = s
  | [], _ => rfl
  | c :: s, h => by
    have hc : c ≠ 0 := by rintro rfl; simp at h
    have hs : s.count 0 = 0 := by rw [List.count_cons_of_ne hc] at h; exact h
    have := esc_none hs
    simp only [esc, List.flatMap_cons, esc1, if_neg hc] at this ⊢
    rw [this]; rfl
theorem esc_length (s : List UInt8) : (esc s).length ≤ 2 * s.length := by
  induction s with
  | nil => simp [esc]
  | cons c s ih =>
    simp only [esc, List.flatMap_cons, List.length_append, List.length_cons] at ih ⊢
    have : (esc1 c).length ≤ 2 := by unfold esc1; split <;> simp
    omega
theorem first_nought : ∀ {s : List UInt8}, 0 < s.count 0 → ∃ p, Lib.indexByte s 0 = (p : Nat) ∧ p < s.length ∧ (s.take p).count 0 = 0 ∧ s.drop p = 0 :: s.drop (p + 1)
  | [], h => by simp at h
  | c :: s, h => by
    by_cases hc : c = 0
    · subst hc
      exact ⟨0, by simp [Lib.indexByte], by simp, by simp, by simp⟩
    · rw [List.count_cons_of_ne hc] at h
      obtain ⟨p, h1, h2, h3, h4⟩ := first_nought h
      refine ⟨p + 1, ?_, by simpa using h2, ?_, by simpa using h4⟩
      · have hn : ¬ ((p : Int) = -1) := by omega
        simp [Lib.indexByte, hc, h1, hn]
      · rw [List.take_succ_cons, List.count_cons_of_ne hc]; exact h3
theorem Replace_spec (h : sat E w H) {s : List UInt8} (hs : s.length ≤ 100000) (k : ∀ w', sat E w' H → K (tv (esc s)) w') : Calls prog 29 #[tv s, tv [0], tv [0, 255]] w (Ret K) := by
  refine c29 ?_
  unfold B29
  refine c37 ?_
  unfold B37
  simp only [↓o_eqT, show decide (([0] : List UInt8) = [0, 255]) = false from rfl, show decide ((-1 : Int) = 0) = false from rfl, ↓o_nil, ↓o_field, ↓o_add, ↓o_sub, ↓o_mul, ↓o_lss, ↓o_leq, ↓o_gtr, ↓o_geq, ↓o_not, ↓o_pick, ↓o_eqInt, ↓o_neInt, ↓o_eqBool, ↓o_neBool, ↓o_eqPtr, ↓o_nePtr, ↓o_eqPtr', ↓o_eqSl, ↓o_neSl, ↓o_eqStr, ↓o_neStr, ↓o_len, ↓o_lenS, ↓o_min, ↓o_max, ↓o_extract, ↓o_convInt, ↓cd_true, ↓cd_false, ↓gate_tt, ↓gate_ff, ↓gate_tf, ↓gate_ft, ↓gate_undef, ↓o_bind, ↓stay_v, ↓pop_cons, ↓fin_nil, Option.isNone_none, Option.isNone_some, Bool.not_true, Bool.not_false, Nat.zero_add, decide_true, decide_false, if_true, if_false, Bool.false_eq_true, ↓reduceIte]
  have hcl : s.count 0 ≤ s.length := List.count_le_length
  refine jn_cut (fun σ w => σ = [.int .i64 ((s.count 0 : Nat) : Int)] ∧ 0 < s.count 0 ∧ sat E w H) (fun kk hkk => ?_) ?_
  · refine Count_spec ?_
    rw [o_eqInt]
    refine cd_dec (fun heq => ?_) (fun hne => ?_)
    · have e : esc s = s := esc_none (by omega)
      rw [e] at k
      exact k _ h
    · simp only [show decide ((-1 : Int) < 0) = true from rfl, ↓o_nil, ↓o_field, ↓o_add, ↓o_sub, ↓o_mul, ↓o_lss, ↓o_leq, ↓o_gtr, ↓o_geq, ↓o_not, ↓o_pick, ↓o_eqInt, ↓o_neInt, ↓o_eqBool, ↓o_neBool, ↓o_eqPtr, ↓o_nePtr, ↓o_eqPtr', ↓o_eqSl, ↓o_neSl, ↓o_eqStr, ↓o_neStr, ↓o_len, ↓o_lenS, ↓o_min, ↓o_max, ↓o_extract, ↓o_convInt, ↓cd_true, ↓cd_false, ↓gate_tt, ↓gate_ff, ↓gate_tf, ↓gate_ft, ↓gate_undef, ↓o_bind, ↓stay_v, ↓pop_cons, ↓fin_nil, Option.isNone_none, Option.isNone_some, Bool.not_true, Bool.not_false, Nat.zero_add, decide_true, decide_false, if_true, if_false, Bool.false_eq_true, ↓reduceIte]
      exact hkk _ _ ⟨rfl, by omega, h⟩
  clear h
  rintro σ w ⟨rfl, hpos, h⟩
  rw [pop_cons, fin_nil]
  refine alloc_sl h fun b w h => ?_
  have h : sat E w (pts b (.cells [.pointer none, .slice none 0 0].toArray 68 (0, 0)) * H) := h
  have e1 : IntKind.i64.wrap (((2 : Nat) : Int) - ((1 : Nat) : Int)) = 1 := rfl
  have e2 : IntKind.i64.wrap (((s.count 0 : Nat) : Int) * 1) = ((s.count 0 : Nat) : Int) := by rw [i64_of (by omega) (by omega)]; omega
  have e3 : IntKind.i64.wrap ((s.length : Int) + ((s.count 0 : Nat) : Int)) = ((s.length + s.count 0 : Nat) : Int) := by rw [i64_of (by omega) (by omega)]; omega
  rw [o_lenT, o_lenT, o_lenT, show ([0] : List UInt8).length = 1 from rfl, show ([0, 255] : List UInt8).length = 2 from rfl, o_sub, e1, o_mul, e2, o_add, e3]
  refine Grow_spec h (by omega) fun w h => ?_
  refine jn_cut (fun σ w => ∃ i : Nat, σ = [.int .i64 (i : Int)] ∧ i ≤ s.length ∧ (s.drop i).count 0 = 0 ∧ sat E w (bld b (esc (s.take i)) * H)) (fun kk hkk => ?_) ?_
  · rw [o_lenT, o_gtr, show ([0] : List UInt8).length = 1 from rfl, show decide ((0 : Int) < ((1 : Nat) : Int)) = true from rfl, cd_true]
    refine lp_nat (fun q σ w => ∃ i j : Nat, σ = [.int .i64 (i : Int), .int .i64 (j : Int)] ∧ q = s.count 0 - j ∧ j ≤ s.count 0 ∧ i ≤ s.length ∧ (s.drop i).count 0 = s.count 0 - j ∧ sat E w (bld b (esc (s.take i)) * H)) (s.count 0)
      ⟨0, 0, rfl, rfl, by omega, by omega, by simp, by simpa [esc] using h⟩ ?_
    clear h
    rintro q σ w again ⟨i, j, rfl, rfl, hj, hi, hc, h⟩ hag
    rw [pop_cons, pop_cons, fin_nil, o_lss]
    refine cd_dec (fun hlt => ?_) (fun hge => ?_)
    · obtain ⟨p, p1, p2, p3, p4⟩ := first_nought (s := s.drop i) (by omega)
      rw [List.length_drop] at p2
      rw [o_sliceT_l (by omega) (by omega), Int.toNat_natCast]
      refine Index_spec ?_
      have f1 : IntKind.i64.wrap ((i : Int) + ((p : Nat) : Int)) = ((i + p : Nat) : Int) := by rw [i64_of (by omega) (by omega)]; omega
      rw [p1, o_add, f1, o_sliceT (by omega) (by omega) (by omega), Int.toNat_natCast, Int.toNat_natCast, show i + p - i = p by omega]
      have hel := esc_length (s.take i)
      have htl : (s.take i).length ≤ s.length := by simp; omega
      refine WriteString_spec h (by simp only [List.length_take, List.length_drop]; omega) fun w h => ?_
      refine WriteString_spec (s := [0, 255]) h (by simp only [List.length_append, List.length_take, List.length_drop, List.length_cons, List.length_nil]; omega) fun w h => ?_
      rw [o_lenT, show ([0] : List UInt8).length = 1 from rfl, o_add, o_add, i64_of (by omega) (by omega), i64_of (by omega) (by omega)]
      refine hag (s.count 0 - (j + 1)) _ _ (by omega) ⟨i + p + 1, j + 1, ?_, rfl, by omega, by omega, ?_, ?_⟩
      · rfl
      · have e : (s.drop i) = (s.drop i).take p ++ (s.drop i).drop p := (List.take_append_drop p _).symm
        rw [e, List.count_append, p3, p4, List.count_cons_self] at hc
        rw [show i + p + 1 = i + (p + 1) by omega, ← List.drop_drop]
        omega
      · have e : esc (s.take (i + p + 1)) = esc (s.take i) ++ (s.drop i).take p ++ [0, 255] := by
          have e1 : s.take (i + p + 1) = s.take i ++ ((s.drop i).take p ++ [0]) := by
            rw [show i + p + 1 = i + (p + 1) by omega, List.take_add]
            congr 1
            rw [List.take_add]
            congr 1
            rw [p4]; rfl
          rw [e1, esc_append, esc_append, esc_none p3, List.append_assoc]; rfl
        rw [e]; exact h
    · exact hkk _ _ ⟨i, rfl, hi, by omega, h⟩
  · clear h
    rintro σ w ⟨i, rfl, hi, hc, h⟩
    have hel := esc_length (s.take i)
    have htl : (s.take i).length ≤ s.length := by simp; omega
    rw [pop_cons, fin_nil, o_sliceT_l (by omega) (by omega), Int.toNat_natCast]
    refine WriteString_spec h (by simp only [List.length_drop]; omega) fun w h => ?_
    have e : esc (s.take i) ++ s.drop i = esc s := by
      have e0 : s = s.take i ++ s.drop i := (List.take_append_drop i s).symm
      rw [e0, esc_append, ← e0, esc_none hc]
    rw [e] at h
    have hne : esc s ≠ [] := by
      intro h0
      obtain ⟨p, _, p2, _, _⟩ := first_nought hpos
      cases hs0 : s with
      | nil => rw [hs0] at p2; simp at p2
      | cons c t =>
        rw [hs0] at h0
        simp only [esc, List.flatMap_cons] at h0
        have : esc1 c = [] := List.append_eq_nil_iff.1 h0 |>.1
        unfold esc1 at this; split at this <;> cases this
    have hel2 := esc_length s
    exact String_spec h hne (by omega) fun w h => k _ h
end Go.Proofs.YtnkmgkilfkgfhaaDoor
