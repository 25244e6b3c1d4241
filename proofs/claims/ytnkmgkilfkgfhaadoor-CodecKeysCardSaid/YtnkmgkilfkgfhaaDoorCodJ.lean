/-
  Rows of texts compared; keys behind others; the orders of numbers' texts.
-/
import Derived.Test.YtnkmgkilfkgfhaaDoorCodG
set_option linter.all false
set_option maxRecDepth 10000
namespace Go.Proofs.YtnkmgkilfkgfhaaDoor
open Go Hold
variable {E : World0} {w : World} {H R : HP} {K : Value → World → Prop}
theorem SameTexts_spec (h : sat E w H) {v u : Value} {l m : List (List UInt8)} (hv : Rds H v l.length (l.map tv)) (hu : Rds H u m.length (m.map tv)) (hl : l.length ≤ 140737488355328)
    (k : ∀ w', sat E w' H → K (.bool (decide (l = m))) w') : Calls prog 17 #[v, u] w (Ret K) := by
  obtain ⟨a, c, rfl, hc, hv, ha⟩ := hv.shape h
  obtain ⟨a', c', rfl, hc', hu, ha'⟩ := hu.shape h
  refine c17 ?_
  unfold B17
  simp only [↓o_nil, ↓o_field, ↓o_add, ↓o_sub, ↓o_mul, ↓o_lss, ↓o_leq, ↓o_gtr, ↓o_geq, ↓o_not, ↓o_pick, ↓o_eqInt, ↓o_neInt, ↓o_eqBool, ↓o_neBool, ↓o_eqPtr, ↓o_nePtr, ↓o_eqPtr', ↓o_eqSl, ↓o_neSl, ↓o_eqStr, ↓o_neStr, ↓o_len, ↓o_lenS, ↓o_min, ↓o_max, ↓o_extract, ↓o_convInt, ↓cd_true, ↓cd_false, ↓gate_tt, ↓gate_ff, ↓gate_tf, ↓gate_ft, ↓gate_undef, ↓o_bind, ↓stay_v, ↓pop_cons, ↓fin_nil, Option.isNone_none, Option.isNone_some, Bool.not_true, Bool.not_false, Nat.zero_add, decide_true, decide_false, if_true, if_false, Bool.false_eq_true, ↓reduceIte]
  refine cd_dec' (fun he => ?_) (fun hne => ?_)
  · have he : l.length = m.length := by omega
    refine lp_nat (fun n σ w => ∃ i : Nat, σ = [.int .i64 i] ∧ n = l.length - i ∧ i ≤ l.length ∧ l.take i = m.take i ∧ sat E w H) l.length ⟨0, rfl, rfl, by omega, rfl, h⟩ ?_
    rintro n σ w again ⟨i, rfl, rfl, hi, heq, h⟩ hag
    simp only [↓o_nil, ↓o_field, ↓o_add, ↓o_sub, ↓o_mul, ↓o_lss, ↓o_leq, ↓o_gtr, ↓o_geq, ↓o_not, ↓o_pick, ↓o_eqInt, ↓o_neInt, ↓o_eqBool, ↓o_neBool, ↓o_eqPtr, ↓o_nePtr, ↓o_eqPtr', ↓o_eqSl, ↓o_neSl, ↓o_eqStr, ↓o_neStr, ↓o_len, ↓o_lenS, ↓o_min, ↓o_max, ↓o_extract, ↓o_convInt, ↓cd_true, ↓cd_false, ↓gate_tt, ↓gate_ff, ↓gate_tf, ↓gate_ft, ↓gate_undef, ↓o_bind, ↓stay_v, ↓pop_cons, ↓fin_nil, Option.isNone_none, Option.isNone_some, Bool.not_true, Bool.not_false, Nat.zero_add, decide_true, decide_false, if_true, if_false, Bool.false_eq_true, ↓reduceIte]
    refine cd_dec (fun hlt => ?_) (fun hge => ?_)
    · have hlt : i < l.length := by simpa using hlt
      refine dr_sl h fun w h _ => ?_
      obtain ⟨b, o, rfl, hb⟩ := win_cell (hv.win h) (j := i) (by simpa using hlt)
      obtain ⟨b', o', rfl, hb'⟩ := win_cell (hu.win h) (j := i) (by simp; omega)
      rw [o_index (by omega) (by omega), o_index (by omega) (by omega)]
      simp only [Int.toNat_natCast, Nat.mul_one]
      refine ld_cell hb ?_
      refine ld_cell hb' ?_
      simp only [List.getElem_map]
      rw [o_neT]
      refine cd_dec' (fun hx => ?_) (fun hx => ?_)
      · (try rw [o_add]); rw [i64_of (by omega) (by omega)]
        refine hag (l.length - (i + 1)) _ _ (by omega) ⟨i + 1, rfl, rfl, by omega, ?_, h⟩
        rw [List.take_succ_eq_append_getElem hlt, List.take_succ_eq_append_getElem (by omega), heq, hx]
      · have : ¬ l = m := by rintro rfl; exact hx rfl
        have := k w h
        simpa [*] using this
    · have hge : i = l.length := by omega
      subst hge
      have : l = m := by rw [List.take_length] at heq; rw [heq]; rw [he]; simp
      have hk := k w h
      simpa [this] using hk
  · have : ¬ l = m := by rintro rfl; exact hne rfl
    have hk := k w h
    simpa [this] using hk
/-! Keys begin others just where parts go on. -/
theorem pre_part : ∀ (p q X Y : List UInt8), (esc p ++ ([0, 1] ++ X)) <+: (esc q ++ ([0, 1] ++ Y)) ↔ p = q ∧ X <+: Y
  | [], [], X, Y => by simp [esc]
  | [], d :: q, X, Y => by
    by_cases hd : d = 0
    · subst hd; simp [esc, esc1]
    · have hd2 : ¬ (0 : UInt8) = d := fun h => hd h.symm
      simp [esc, esc1, hd, hd2]
  | c :: p, [], X, Y => by
    by_cases hc : c = 0
    · subst hc; simp [esc, esc1]
    · simp [esc, esc1, hc]
  | c :: p, d :: q, X, Y => by
    have ih := pre_part p q X Y
    have e : ∀ (c : UInt8) (p X : List UInt8), esc (c :: p) ++ X = esc1 c ++ (esc p ++ X) := fun c p X => by simp [esc]
    rw [e, e]
    by_cases hcd : c = d
    · subst hcd
      rw [List.prefix_append_right_inj, ih]
      simp
    · have hne : ¬ (c :: p = d :: q) := fun h => hcd (by simpa using (List.cons.inj h).1)
      constructor
      · intro h
        exfalso
        unfold esc1 at h
        by_cases hc : c = 0
        · subst hc
          have hd : ¬ d = 0 := fun h => hcd h.symm
          simp [hd, hcd] at h
        · by_cases hd : d = 0
          · subst hd; simp [hc] at h
          · simp [hc, hd, hcd] at h
      · intro h; exact absurd h.1 hne
theorem pre_enc : ∀ a b : List (List UInt8), enc a <+: enc b ↔ a <+: b
  | [], b => by simp [enc]
  | p :: a, [] => by
    constructor
    · intro h
      have := h.length_le
      simp [enc] at this
    · intro h; simp at h
  | p :: a, q :: b => by
    have ih := pre_enc a b
    have e : ∀ (p : List UInt8) (a : List (List UInt8)), enc (p :: a) = esc p ++ ([0, 1] ++ enc a) := fun p a => by simp [enc]
    rw [e, e, pre_part, ih]
    simp [List.cons_prefix_cons]
theorem enc_inj {a b : List (List UInt8)} : enc a = enc b ↔ a = b := by
  constructor
  · intro h
    have h1 := (pre_enc a b).1 (by rw [h]; exact List.prefix_refl _)
    have h2 := (pre_enc b a).1 (by rw [h]; exact List.prefix_refl _)
    exact h1.eq_of_length (Nat.le_antisymm h1.length_le h2.length_le)
  · rintro rfl; rfl
theorem pre_take {α : Type} [DecidableEq α] {a b : List α} (h : a.length ≤ b.length) : b.take a.length = a ↔ a <+: b := by
  rw [List.prefix_iff_eq_take]
  exact eq_comm
/-! Texts of numbers are ordered as the numbers are. -/
theorem lex_last {a b : List UInt8} {x y : UInt8} (h : a.length = b.length) : lexB (a ++ [x]) (b ++ [y]) = if a = b then decide (x < y) else lexB a b := by
  induction a generalizing b with
  | nil =>
    have : b = [] := List.eq_nil_of_length_eq_zero h.symm
    subst this
    simp only [List.nil_append, lexB, if_true]
    by_cases hxy : x = y
    · subst hxy; simp
    · simp [hxy]
  | cons c a ih =>
    cases b with
    | nil => simp at h
    | cons d b =>
      simp only [List.cons_append, lexB]
      by_cases hcd : c = d
      · subst hcd
        simp [ih (by simpa using h)]
      · have : ¬ (c :: a = d :: b) := fun h => hcd (List.cons.inj h).1
        rw [if_neg hcd, if_neg this, if_neg hcd]
theorem dig_lt : ∀ x, x < 16 → ∀ y, y < 16 → (decide (dig x < dig y) = decide (x < y)) := by decide
theorem lexB_irrefl (a : List UInt8) : lexB a a = false := by
  induction a with
  | nil => rfl
  | cons c a ih => simp [lexB, ih]
theorem first_byte {m n : Nat} (hm : m ≤ 16) (hn : n ≤ 16) : (UInt8.ofNat (97 + m) = UInt8.ofNat (97 + n) ↔ m = n) ∧ (UInt8.ofNat (97 + m) < UInt8.ofNat (97 + n) ↔ m < n) := by
  rw [UInt8.lt_iff_toNat_lt, ← UInt8.toNat_inj, UInt8.toNat_ofNat', UInt8.toNat_ofNat']
  omega
theorem hexs_len16 {n : Nat} (h : n < 16 ^ 16) : (hexs n).length ≤ 16 := hexs_length 16 n h
theorem num_lex : ∀ (n a b : Nat), a < n → a < 16 ^ 16 → b < 16 ^ 16 → lexB (numText a) (numText b) = decide (a < b)
  | 0, a, b, h, _, _ => by omega
  | n + 1, a, b, hn, ha, hb => by
    have la := hexs_len16 ha
    have lb := hexs_len16 hb
    unfold numText
    simp only [lexB]
    obtain ⟨fe, fl⟩ := first_byte la lb
    by_cases ha0 : a = 0
    · subst ha0
      by_cases hb0 : b = 0
      · subst hb0; rw [hexs_zero]; simp [lexB]
      · have : 0 < (hexs b).length := by rw [hexs_pos hb0]; simp
        rw [hexs_zero] at fe fl ⊢
        have f1 : ¬ (UInt8.ofNat (97 + ([] : List UInt8).length) = UInt8.ofNat (97 + (hexs b).length)) := fun h => by have := fe.1 h; simp at this; omega
        rw [if_neg f1]
        have : UInt8.ofNat (97 + ([] : List UInt8).length) < UInt8.ofNat (97 + (hexs b).length) := fl.2 (by simpa using this)
        rw [decide_eq_true this, decide_eq_true (by omega)]
    · by_cases hb0 : b = 0
      · subst hb0
        have hpos : 0 < (hexs a).length := by rw [hexs_pos ha0]; simp
        rw [hexs_zero] at fe fl ⊢
        have f1 : ¬ (UInt8.ofNat (97 + (hexs a).length) = UInt8.ofNat (97 + ([] : List UInt8).length)) := fun h => by have := fe.1 h; simp only [List.length_nil] at this; omega
        rw [if_neg f1]
        have : ¬ UInt8.ofNat (97 + (hexs a).length) < UInt8.ofNat (97 + ([] : List UInt8).length) := fun h => by have := fl.1 h; simp at this
        rw [decide_eq_false this, decide_eq_false (by omega)]
      · have ih := num_lex n (a / 16) (b / 16) (by omega) (by omega) (by omega)
        unfold numText at ih
        simp only [lexB] at ih
        obtain ⟨ge, gl⟩ := first_byte (hexs_len16 (n := a / 16) (by omega)) (hexs_len16 (n := b / 16) (by omega))
        have ea : (hexs a).length = (hexs (a / 16)).length + 1 := by rw [hexs_pos ha0]; simp
        have eb : (hexs b).length = (hexs (b / 16)).length + 1 := by rw [hexs_pos hb0]; simp
        by_cases hl : (hexs (a / 16)).length = (hexs (b / 16)).length
        · rw [if_pos (fe.2 (by omega)), hexs_pos ha0, hexs_pos hb0, lex_last hl, dig_lt _ (by omega) _ (by omega)]
          rw [if_pos (ge.2 hl)] at ih
          by_cases hh : hexs (a / 16) = hexs (b / 16)
          · rw [if_pos hh]
            rw [hh, lexB_irrefl] at ih
            have ih2 := num_lex n (a / 16) (b / 16) (by omega) (by omega) (by omega)
            have hq : a / 16 = b / 16 := by
              have h1 : ¬ (a / 16 < b / 16) := by simpa using ih.symm
              -- the other way round
              have h2 : ¬ (b / 16 < a / 16) := by
                intro hlt
                have ih3 := num_lex n (b / 16) (a / 16) (by omega) (by omega) (by omega)
                unfold numText at ih3
                rw [hh, lexB_irrefl] at ih3
                have : ¬ (b / 16 < a / 16) := by simpa using ih3.symm
                exact this hlt
              omega
            rw [decide_eq_decide]; omega
          · rw [if_neg hh, ih, decide_eq_decide]
            have hne : a / 16 ≠ b / 16 := fun h => hh (by rw [h])
            omega
        · have f1 : ¬ (UInt8.ofNat (97 + (hexs a).length) = UInt8.ofNat (97 + (hexs b).length)) := fun h => by have := fe.1 h; omega
          have g1 : ¬ (UInt8.ofNat (97 + (hexs (a / 16)).length) = UInt8.ofNat (97 + (hexs (b / 16)).length)) := fun h => hl (ge.1 h)
          rw [if_neg f1, decide_eq_decide, fl]
          rw [if_neg g1, decide_eq_decide, gl] at ih
          have hne : a / 16 ≠ b / 16 := fun h => hl (by rw [h])
          omega
theorem number_lex {a b : Nat} (ha : a ≤ 4611686018427387904) (hb : b ≤ 4611686018427387904) : lexB (numText a) (numText b) = decide (a < b) :=
  num_lex (a + 1) a b (by omega) (by show a < 18446744073709551616; omega) (by show b < 18446744073709551616; omega)
end Go.Proofs.YtnkmgkilfkgfhaaDoor
