/-
  The least key behind all that begin with one; what lies between.
-/
import Derived.Test.YtnkmgkilfkgfhaaDoorCodJ
set_option linter.all false
set_option maxRecDepth 10000
namespace Go.Proofs.YtnkmgkilfkgfhaaDoor
open Go Hold
variable {E : World0} {w : World} {H R : HP} {K : Value → World → Prop}
theorem CloneB_spec (h : sat E w H) {v : Value} {l : List UInt8} (hr : Rds H v l.length (l.map bv)) (hl : l.length ≤ 140737488355328)
    (k : ∀ v' w', sat E w' (osl 5 1 v' l.length (l.map bv) * H) → K v' w') : Calls prog 32 #[v] w (Ret K) := by
  obtain ⟨a, c, rfl, hc, hr, ha⟩ := hr.shape h
  refine c32 ?_
  unfold B32
  simp only [↓o_nil, ↓o_field, ↓o_add, ↓o_sub, ↓o_mul, ↓o_lss, ↓o_leq, ↓o_gtr, ↓o_geq, ↓o_not, ↓o_pick, ↓o_eqInt, ↓o_neInt, ↓o_eqBool, ↓o_neBool, ↓o_eqPtr, ↓o_nePtr, ↓o_eqPtr', ↓o_eqSl, ↓o_neSl, ↓o_eqStr, ↓o_neStr, ↓o_len, ↓o_lenS, ↓o_min, ↓o_max, ↓o_extract, ↓o_convInt, ↓cd_true, ↓cd_false, ↓gate_tt, ↓gate_ff, ↓gate_tf, ↓gate_ft, ↓gate_undef, ↓o_bind, ↓stay_v, ↓pop_cons, ↓fin_nil, Option.isNone_none, Option.isNone_some, Bool.not_true, Bool.not_false, Nat.zero_add, decide_true, decide_false, if_true, if_false, Bool.false_eq_true, ↓reduceIte]
  cases a with
  | none =>
    have hn : l = [] := by simpa using ha rfl
    subst hn
    simp only [↓o_nil, ↓o_field, ↓o_add, ↓o_sub, ↓o_mul, ↓o_lss, ↓o_leq, ↓o_gtr, ↓o_geq, ↓o_not, ↓o_pick, ↓o_eqInt, ↓o_neInt, ↓o_eqBool, ↓o_neBool, ↓o_eqPtr, ↓o_nePtr, ↓o_eqPtr', ↓o_eqSl, ↓o_neSl, ↓o_eqStr, ↓o_neStr, ↓o_len, ↓o_lenS, ↓o_min, ↓o_max, ↓o_extract, ↓o_convInt, ↓cd_true, ↓cd_false, ↓gate_tt, ↓gate_ff, ↓gate_tf, ↓gate_ft, ↓gate_undef, ↓o_bind, ↓stay_v, ↓pop_cons, ↓fin_nil, Option.isNone_none, Option.isNone_some, Bool.not_true, Bool.not_false, Nat.zero_add, decide_true, decide_false, if_true, if_false, Bool.false_eq_true, ↓reduceIte]
    exact k _ _ (osl_nil h 5 1)
  | some a =>
    simp only [↓o_nil, ↓o_field, ↓o_add, ↓o_sub, ↓o_mul, ↓o_lss, ↓o_leq, ↓o_gtr, ↓o_geq, ↓o_not, ↓o_pick, ↓o_eqInt, ↓o_neInt, ↓o_eqBool, ↓o_neBool, ↓o_eqPtr, ↓o_nePtr, ↓o_eqPtr', ↓o_eqSl, ↓o_neSl, ↓o_eqStr, ↓o_neStr, ↓o_len, ↓o_lenS, ↓o_min, ↓o_max, ↓o_extract, ↓o_convInt, ↓cd_true, ↓cd_false, ↓gate_tt, ↓gate_ff, ↓gate_tf, ↓gate_ft, ↓gate_undef, ↓o_bind, ↓stay_v, ↓pop_cons, ↓fin_nil, Option.isNone_none, Option.isNone_some, Bool.not_true, Bool.not_false, Nat.zero_add, decide_true, decide_false, if_true, if_false, Bool.false_eq_true, ↓reduceIte]
    refine buildSlice_sl h (e := 5) (cs := #[]) (fun w => by kernel_rfl) ?_
    intro b w1 h1
    refine append_sl (osl_of (n := 0) (sz := 1) h1 rfl (by omega)) (l.map bv) (by simp) (hr.win h1.drop) (bv_one l) (by omega) (by omega) ?_
    intro v' w2 h2
    exact k _ _ (by simpa using h2)
theorem last_set {l sp : List Value} {x y : Value} : ((l ++ [x]) ++ sp).set l.length y = (l ++ [y]) ++ sp := by
  rw [List.append_assoc, List.append_assoc, List.set_append_right _ _ (Nat.le_refl _)]
  simp
theorem last_get {l sp : List Value} {x : Value} : ((l ++ [x]) ++ sp)[0 + l.length * 1]? = some x := by
  rw [List.append_assoc, List.getElem?_append_right (by omega)]
  simp
theorem After_spec (h : sat E w H) {v : Value} {l : List UInt8} (hl : l.length ≤ 1000000) (hv : Rds H v (l ++ [1]).length ((l ++ [1]).map bv))
    (k : ∀ v' w', sat E w' (osl 5 1 v' (l ++ [2]).length ((l ++ [2]).map bv) * H) → K v' w') : Calls prog 18 #[v] w (Ret K) := by
  have hn1 : (l ++ [(1 : UInt8)]).length = l.length + 1 := by simp
  have hn2 : (l ++ [(2 : UInt8)]).length = l.length + 1 := by simp
  have hm1 : (l ++ [(1 : UInt8)]).map bv = l.map bv ++ [bv 1] := by simp
  have hm2 : (l ++ [(2 : UInt8)]).map bv = l.map bv ++ [bv 2] := by simp
  have hll : (l.map bv).length = l.length := by simp
  refine c18 ?_
  unfold B18
  refine CloneB_spec (l := l ++ [1]) h hv (by omega) fun u w h => ?_
  rw [hn1, hm1] at h
  rw [hn2, hm2] at k
  obtain ⟨b, c, sp, rfl, hlen, hc, hP, hcl⟩ := osl_open h (by omega)
  have t1 : decide ((0 : Int) < ((l.length + 1 : Nat) : Int)) = true := decide_eq_true (by omega)
  have t2 : IntKind.i64.wrap (((l.length + 1 : Nat) : Int) - 1) = (l.length : Int) := by rw [i64_of (by omega) (by omega)]; omega
  have t3 : decide ((1 : Int) < 255) = true := rfl
  have t4 : IntKind.u8.wrap ((1 : Int) + 1) = 2 := rfl
  have e1 : bv 1 = .int .u8 (1 : Int) := rfl
  have e2 : bv 2 = .int .u8 (2 : Int) := rfl
  rw [o_len]
  simp only [t1, t2, ↓o_nil, ↓o_field, ↓o_add, ↓o_sub, ↓o_mul, ↓o_lss, ↓o_leq, ↓o_gtr, ↓o_geq, ↓o_not, ↓o_pick, ↓o_eqInt, ↓o_neInt, ↓o_eqBool, ↓o_neBool, ↓o_eqPtr, ↓o_nePtr, ↓o_eqPtr', ↓o_eqSl, ↓o_neSl, ↓o_eqStr, ↓o_neStr, ↓o_len, ↓o_lenS, ↓o_min, ↓o_max, ↓o_extract, ↓o_convInt, ↓cd_true, ↓cd_false, ↓gate_tt, ↓gate_ff, ↓gate_tf, ↓gate_ft, ↓gate_undef, ↓o_bind, ↓stay_v, ↓pop_cons, ↓fin_nil, Option.isNone_none, Option.isNone_some, Bool.not_true, Bool.not_false, Nat.zero_add, decide_true, decide_false, if_true, if_false, Bool.false_eq_true, ↓reduceIte]
  rw [o_index (by omega) (by omega)]
  simp only [Int.toNat_natCast]
  have hg : ((l.map bv ++ [bv 1]) ++ sp)[0 + l.length * 1]? = some (bv 1) := by rw [← hll]; exact last_get
  refine ld_in (b := b) (v := bv 1) hP hg ?_
  rw [e1, o_lss]
  simp only [t3, t2, ↓o_nil, ↓o_field, ↓o_add, ↓o_sub, ↓o_mul, ↓o_lss, ↓o_leq, ↓o_gtr, ↓o_geq, ↓o_not, ↓o_pick, ↓o_eqInt, ↓o_neInt, ↓o_eqBool, ↓o_neBool, ↓o_eqPtr, ↓o_nePtr, ↓o_eqPtr', ↓o_eqSl, ↓o_neSl, ↓o_eqStr, ↓o_neStr, ↓o_len, ↓o_lenS, ↓o_min, ↓o_max, ↓o_extract, ↓o_convInt, ↓cd_true, ↓cd_false, ↓gate_tt, ↓gate_ff, ↓gate_tf, ↓gate_ft, ↓gate_undef, ↓o_bind, ↓stay_v, ↓pop_cons, ↓fin_nil, Option.isNone_none, Option.isNone_some, Bool.not_true, Bool.not_false, Nat.zero_add, decide_true, decide_false, if_true, if_false, Bool.false_eq_true, ↓reduceIte]
  rw [o_index (by omega) (by omega)]
  simp only [Int.toNat_natCast]
  refine ld_in (b := b) (v := bv 1) hP hg ?_
  rw [e1, o_add, t4, o_index (by omega) (by omega)]
  simp only [Int.toNat_natCast]
  refine store_sl (b := b) hP rfl (by simp) fun w h => ?_
  rw [show 0 + l.length * 1 = (l.map bv).length by simp, last_set] at h
  exact k _ _ (hcl (xs' := l.map bv ++ [bv 2]) (by simp) h)
theorem After_nil (h : sat E w H) (k : ∀ v' w', sat E w' (osl 5 1 v' 1 ([(255 : UInt8)].map bv) * H) → K v' w') : Calls prog 18 #[.slice none 0 0] w (Ret K) := by
  refine c18 ?_
  unfold B18
  refine CloneB_spec (l := []) h (fun E w hs => ⟨none, 0, rfl, Nat.le_refl _, .inl rfl⟩) (by simp) fun u w h => ?_
  have h : sat E w (osl 5 1 u 0 [] * H) := h
  obtain ⟨a, c, rfl, _⟩ := osl_shape h
  have t1 : decide ((0 : Int) < ((0 : Nat) : Int)) = false := rfl
  rw [o_len]
  simp only [t1, ↓o_nil, ↓o_field, ↓o_add, ↓o_sub, ↓o_mul, ↓o_lss, ↓o_leq, ↓o_gtr, ↓o_geq, ↓o_not, ↓o_pick, ↓o_eqInt, ↓o_neInt, ↓o_eqBool, ↓o_neBool, ↓o_eqPtr, ↓o_nePtr, ↓o_eqPtr', ↓o_eqSl, ↓o_neSl, ↓o_eqStr, ↓o_neStr, ↓o_len, ↓o_lenS, ↓o_min, ↓o_max, ↓o_extract, ↓o_convInt, ↓cd_true, ↓cd_false, ↓gate_tt, ↓gate_ff, ↓gate_tf, ↓gate_ft, ↓gate_undef, ↓o_bind, ↓stay_v, ↓pop_cons, ↓fin_nil, Option.isNone_none, Option.isNone_some, Bool.not_true, Bool.not_false, Nat.zero_add, decide_true, decide_false, if_true, if_false, Bool.false_eq_true, ↓reduceIte]
  refine push_sl h (u := .int .u8 255) rfl rfl (by omega) (by omega) fun v w h => ?_
  exact k v w h
theorem RAfter_spec (h : sat E w H) {v : Value} {l : List UInt8} (hl : l.length ≤ 1000000) (hv : Rds H v (l ++ [1]).length ((l ++ [1]).map bv))
    (k : ∀ v' w', sat E w' (osl 5 1 v' (l ++ [2]).length ((l ++ [2]).map bv) * H) → K v' w') : Calls prog 19 #[v] w (Ret K) := by
  have hn1 : (l ++ [(1 : UInt8)]).length = l.length + 1 := by simp
  have hn2 : (l ++ [(2 : UInt8)]).length = l.length + 1 := by simp
  have hm1 : (l ++ [(1 : UInt8)]).map bv = l.map bv ++ [bv 1] := by simp
  have hm2 : (l ++ [(2 : UInt8)]).map bv = l.map bv ++ [bv 2] := by simp
  have hll : (l.map bv).length = l.length := by simp
  rw [hn1, hm1] at hv
  rw [hn2, hm2] at k
  obtain ⟨va, vc, rfl, _, hv, _⟩ := hv.shape h
  refine c19 ?_
  unfold B19
  refine append_sl (osl_nil h 5 1) (l.map bv ++ [bv 1]) (k' := l.length + 1) (by simp) (hv.win h) (by rw [← hm1]; exact bv_one _) (by omega) (by omega) fun u w h => ?_
  rw [Nat.zero_add, List.nil_append] at h
  obtain ⟨b, c, sp, rfl, hlen, hc, hP, hcl⟩ := osl_open h (by omega)
  have t1 : decide (((l.length + 1 : Nat) : Int) = 0) = false := decide_eq_false (by omega)
  have t2 : IntKind.i64.wrap (((l.length + 1 : Nat) : Int) - 1) = (l.length : Int) := by rw [i64_of (by omega) (by omega)]; omega
  have t3 : decide ((1 : Int) = 255) = false := rfl
  have t4 : IntKind.u8.wrap ((1 : Int) + 1) = 2 := rfl
  have e1 : bv 1 = .int .u8 (1 : Int) := rfl
  rw [o_len]
  simp only [t1, t2, ↓o_nil, ↓o_field, ↓o_add, ↓o_sub, ↓o_mul, ↓o_lss, ↓o_leq, ↓o_gtr, ↓o_geq, ↓o_not, ↓o_pick, ↓o_eqInt, ↓o_neInt, ↓o_eqBool, ↓o_neBool, ↓o_eqPtr, ↓o_nePtr, ↓o_eqPtr', ↓o_eqSl, ↓o_neSl, ↓o_eqStr, ↓o_neStr, ↓o_len, ↓o_lenS, ↓o_min, ↓o_max, ↓o_extract, ↓o_convInt, ↓cd_true, ↓cd_false, ↓gate_tt, ↓gate_ff, ↓gate_tf, ↓gate_ft, ↓gate_undef, ↓o_bind, ↓stay_v, ↓pop_cons, ↓fin_nil, Option.isNone_none, Option.isNone_some, Bool.not_true, Bool.not_false, Nat.zero_add, decide_true, decide_false, if_true, if_false, Bool.false_eq_true, ↓reduceIte]
  rw [o_index (by omega) (by omega)]
  simp only [Int.toNat_natCast]
  have hg : ((l.map bv ++ [bv 1]) ++ sp)[0 + l.length * 1]? = some (bv 1) := by rw [← hll]; exact last_get
  refine ld_in (b := b) (v := bv 1) hP hg ?_
  rw [e1, o_eqInt]
  simp only [t3, t2, ↓o_nil, ↓o_field, ↓o_add, ↓o_sub, ↓o_mul, ↓o_lss, ↓o_leq, ↓o_gtr, ↓o_geq, ↓o_not, ↓o_pick, ↓o_eqInt, ↓o_neInt, ↓o_eqBool, ↓o_neBool, ↓o_eqPtr, ↓o_nePtr, ↓o_eqPtr', ↓o_eqSl, ↓o_neSl, ↓o_eqStr, ↓o_neStr, ↓o_len, ↓o_lenS, ↓o_min, ↓o_max, ↓o_extract, ↓o_convInt, ↓cd_true, ↓cd_false, ↓gate_tt, ↓gate_ff, ↓gate_tf, ↓gate_ft, ↓gate_undef, ↓o_bind, ↓stay_v, ↓pop_cons, ↓fin_nil, Option.isNone_none, Option.isNone_some, Bool.not_true, Bool.not_false, Nat.zero_add, decide_true, decide_false, if_true, if_false, Bool.false_eq_true, ↓reduceIte]
  rw [o_index (by omega) (by omega)]
  simp only [Int.toNat_natCast]
  refine ld_in (b := b) (v := bv 1) hP hg ?_
  rw [e1, o_add, t4, o_index (by omega) (by omega)]
  simp only [Int.toNat_natCast]
  refine store_sl (b := b) hP rfl (by simp) fun w h => ?_
  rw [show 0 + l.length * 1 = (l.map bv).length by simp, last_set] at h
  exact k _ _ (hcl (xs' := l.map bv ++ [bv 2]) (by simp) h)
theorem lex_longer : ∀ (x m : List UInt8), lexB (x ++ m) x = false
  | [], [] => rfl
  | [], _ :: _ => rfl
  | a :: x, m => by
    show (if a = a then lexB (x ++ m) x else _) = false
    rw [if_pos rfl]; exact lex_longer x m
theorem between : ∀ (l z : List UInt8), (lexB z (l ++ [1]) = false ∧ lexB z (l ++ [2]) = true) ↔ (l ++ [1]) <+: z
  | [], [] => by simp [lexB]
  | a :: l, [] => by simp [lexB]
  | [], b :: z => by
    have e1 : lexB (b :: z) ([] ++ [1]) = if b = 1 then lexB z [] else decide (b < 1) := rfl
    have e2 : lexB (b :: z) ([] ++ [2]) = if b = 2 then lexB z [] else decide (b < 2) := rfl
    have e3 : lexB z [] = false := by cases z <;> rfl
    rw [e1, e2, e3]
    have key : ∀ b : UInt8, ((if b = 1 then false else decide (b < 1)) = false ∧ (if b = 2 then false else decide (b < 2)) = true) ↔ b = 1 := by
      intro b
      by_cases h1 : b = 1
      · subst h1; decide
      by_cases h2 : b = 2
      · subst h2; decide
      have n1 : b.toNat ≠ 1 := fun h => h1 (UInt8.toNat_inj.1 h)
      have n2 : b.toNat ≠ 2 := fun h => h2 (UInt8.toNat_inj.1 h)
      simp only [h1, h2, if_false, iff_false]
      rintro ⟨h3, h4⟩
      have h3 := of_decide_eq_false h3
      have h4 := of_decide_eq_true h4
      rw [UInt8.lt_iff_toNat_lt] at h3 h4
      have t1 : (1 : UInt8).toNat = 1 := rfl
      have t2 : (2 : UInt8).toNat = 2 := rfl
      omega
    rw [key b, List.nil_append, List.cons_prefix_cons]
    simp [eq_comm]
  | a :: l, b :: z => by
    have e1 : lexB (b :: z) (a :: l ++ [1]) = if b = a then lexB z (l ++ [1]) else decide (b < a) := rfl
    have e2 : lexB (b :: z) (a :: l ++ [2]) = if b = a then lexB z (l ++ [2]) else decide (b < a) := rfl
    rw [e1, e2]
    by_cases hba : b = a
    · subst hba
      rw [if_pos rfl, if_pos rfl, between l z, List.cons_append, List.cons_prefix_cons]
      simp
    · rw [if_neg hba, if_neg hba, List.cons_append, List.cons_prefix_cons]
      constructor
      · rintro ⟨h1, h2⟩; rw [h1] at h2; cases h2
      · rintro ⟨h1, _⟩; exact absurd h1.symm hba
theorem enc_last {a : List (List UInt8)} (h : a ≠ []) : ∃ l, enc a = l ++ [1] := by
  refine ⟨enc a.dropLast ++ (esc (a.getLast h) ++ [0]), ?_⟩
  conv => lhs; rw [← List.dropLast_concat_getLast h, enc_append]
  simp [enc]
end Go.Proofs.YtnkmgkilfkgfhaaDoor
