/-
  New, Read, Write.
-/
import Derived.Test.YteplajobjlehlaaBlkC
set_option linter.all false
set_option maxRecDepth 10000
namespace Go.Proofs.Yteplajobjlehlaa
open Go Hold
variable {E : World0} {w : World} {H R : HP} {K : Value → World → Prop}

theorem immAll_snoc {I : Hp} {us : List Value} {Ls : List (List UInt8)} {v : Value} {l : List UInt8} (h : (immAll us Ls).p I) (hv : RdS I v l.length (l.map bv)) : (immAll (us ++ [v]) (Ls ++ [l])).p I := by
  refine ⟨by simp [h.1], fun j u m hu hm => ?_⟩
  have hl := h.1
  rcases Nat.lt_or_ge j us.length with hj | hj
  · rw [List.getElem?_append_left hj] at hu
    rw [List.getElem?_append_left (by omega)] at hm
    exact h.2 j u m hu hm
  · rw [List.getElem?_append_right hj] at hu
    rw [List.getElem?_append_right (by omega)] at hm
    have : j - us.length = 0 := by
      rcases Nat.eq_zero_or_pos (j - us.length) with h0 | h0
      · exact h0
      · rw [List.getElem?_eq_none (by simp; omega)] at hu; cases hu
    rw [this] at hu
    rw [show j - Ls.length = 0 by omega] at hm
    simp at hu hm
    subst hu; subst hm; exact hv
theorem immAll_nil {w : World} (h : sat E w R) : sat E w (pers (immAll [] []) * R) :=
  h.mono fun I h' hp' => (pers_star_p _ _ _ _).2 ⟨⟨rfl, fun i v l hv => by simp at hv⟩, hp'⟩
/-- One more of them stays. -/
theorem sat_snoc {us : List Value} {Ls : List (List UInt8)} {v : Value} {l : List UInt8} (h : sat E w (pers (immS v l.length (l.map bv)) * (pers (immAll us Ls) * R))) : sat E w (pers (immAll (us ++ [v]) (Ls ++ [l])) * R) := by
  rw [← star_assoc, pers_and] at h
  exact h.pers_mono fun I hI => immAll_snoc hI.2 hI.1
theorem immAll_set {I : Hp} {vs : List Value} {L : List (List UInt8)} {v : Value} {l : List UInt8} {n : Nat} (h : (immAll vs L).p I) (hv : RdS I v l.length (l.map bv)) : (immAll (vs.set n v) (L.set n l)).p I := by
  refine ⟨by simp [h.1], fun j u m hu hm => ?_⟩
  by_cases hj : n = j
  · subst hj
    have h1 := (List.getElem?_eq_some_iff.1 hu).1
    have h2 := (List.getElem?_eq_some_iff.1 hm).1
    simp at h1 h2
    simp [h1] at hu; simp [h2] at hm
    subst hu; subst hm; exact hv
  · rw [List.getElem?_set_ne hj] at hu hm
    exact h.2 j u m hu hm

def zeros : List UInt8 := List.replicate 256 0
theorem zeros_map : List.replicate 256 (Value.int .u8 0) = zeros.map bv := by unfold zeros; rw [List.map_replicate]; rfl

theorem New_bad {n : Int} (hn : n < 1 ∨ 1024 < n) (k : K (.tuple #[.pointer none, .int .i64 2]) w) : Calls prog 31 #[.int .i64 n] w (Ret K) := by
  refine c31 ?_
  unfold B31
  by_cases h1 : n < 1
  · simp only [↓o_nil, ↓o_field, ↓o_add, ↓o_sub, ↓o_mul, ↓o_lss, ↓o_leq, ↓o_gtr, ↓o_geq, ↓o_not, ↓o_pick, ↓o_eqInt, ↓o_neInt, ↓o_eqBool, ↓o_neBool, ↓o_eqPtr, ↓o_nePtr, ↓o_eqPtr', ↓o_eqSl, ↓o_neSl, ↓o_eqStr, ↓o_neStr, ↓o_len, ↓o_lenS, ↓o_min, ↓o_max, ↓o_extract, ↓o_convInt, ↓cd_true, ↓cd_false, ↓gate_tt, ↓gate_ff, ↓gate_tf, ↓gate_ft, ↓gate_undef, ↓pop_cons, ↓fin_nil, Option.isNone_none, Option.isNone_some, Bool.not_true, Bool.not_false, Nat.zero_add, decide_true, decide_false, if_true, if_false, Bool.false_eq_true, ↓reduceIte, h1]; exact k
  · have h2 : 1024 < n := by omega
    simp only [↓o_nil, ↓o_field, ↓o_add, ↓o_sub, ↓o_mul, ↓o_lss, ↓o_leq, ↓o_gtr, ↓o_geq, ↓o_not, ↓o_pick, ↓o_eqInt, ↓o_neInt, ↓o_eqBool, ↓o_neBool, ↓o_eqPtr, ↓o_nePtr, ↓o_eqPtr', ↓o_eqSl, ↓o_neSl, ↓o_eqStr, ↓o_neStr, ↓o_len, ↓o_lenS, ↓o_min, ↓o_max, ↓o_extract, ↓o_convInt, ↓cd_true, ↓cd_false, ↓gate_tt, ↓gate_ff, ↓gate_tf, ↓gate_ft, ↓gate_undef, ↓pop_cons, ↓fin_nil, Option.isNone_none, Option.isNone_some, Bool.not_true, Bool.not_false, Nat.zero_add, decide_true, decide_false, if_true, if_false, Bool.false_eq_true, ↓reduceIte, h1, h2]; exact k
theorem New_spec (h : sat E w H) {n : Int} (h1 : 1 ≤ n) (h2 : n ≤ 1024)
    (k : ∀ d w', sat E w' (dsk d (List.replicate n.toNat zeros) [] * H) → K (.tuple #[.pointer (some ⟨d, 0, none⟩), .int .i64 0]) w') : Calls prog 31 #[.int .i64 n] w (Ret K) := by
  obtain ⟨n, rfl⟩ := Int.eq_ofNat_of_zero_le (show 0 ≤ n by omega)
  refine c31 ?_
  unfold B31
  have e1 : ¬ (n : Int) < 1 := by omega
  have e2 : ¬ (1024 : Int) < n := by omega
  simp only [↓o_nil, ↓o_field, ↓o_add, ↓o_sub, ↓o_mul, ↓o_lss, ↓o_leq, ↓o_gtr, ↓o_geq, ↓o_not, ↓o_pick, ↓o_eqInt, ↓o_neInt, ↓o_eqBool, ↓o_neBool, ↓o_eqPtr, ↓o_nePtr, ↓o_eqPtr', ↓o_eqSl, ↓o_neSl, ↓o_eqStr, ↓o_neStr, ↓o_len, ↓o_lenS, ↓o_min, ↓o_max, ↓o_extract, ↓o_convInt, ↓cd_true, ↓cd_false, ↓gate_tt, ↓gate_ff, ↓gate_tf, ↓gate_ft, ↓gate_undef, ↓pop_cons, ↓fin_nil, Option.isNone_none, Option.isNone_some, Bool.not_true, Bool.not_false, Nat.zero_add, decide_true, decide_false, if_true, if_false, Bool.false_eq_true, ↓reduceIte, e1, e2]
  refine make_sl h rfl (by omega) (by omega) (by omega) (by omega) ?_
  intro b w h
  simp only [Int.toNat_natCast] at h ⊢
  refine pvv_of (v := .agg #[.slice (some ⟨b, 0, none⟩) n n, .slice none 0 0, .int .i64 0]) (fun _ => by kernel_rfl) ?_
  refine box_sl h ?_
  intro d w h
  have h : sat E w (pts d (.cells [Value.slice (some ⟨b, 0, none⟩) n n, .slice none 0 0, .int .i64 0].toArray 79 (0, 0)) * (pts b (.cells (List.replicate n (Value.slice none 0 0)).toArray 32 (0, 0)) * H)) := h
  simp only [↓o_nil, ↓o_field, ↓o_add, ↓o_sub, ↓o_mul, ↓o_lss, ↓o_leq, ↓o_gtr, ↓o_geq, ↓o_not, ↓o_pick, ↓o_eqInt, ↓o_neInt, ↓o_eqBool, ↓o_neBool, ↓o_eqPtr, ↓o_nePtr, ↓o_eqPtr', ↓o_eqSl, ↓o_neSl, ↓o_eqStr, ↓o_neStr, ↓o_len, ↓o_lenS, ↓o_min, ↓o_max, ↓o_extract, ↓o_convInt, ↓cd_true, ↓cd_false, ↓gate_tt, ↓gate_ff, ↓gate_tf, ↓gate_ft, ↓gate_undef, ↓pop_cons, ↓fin_nil, Option.isNone_none, Option.isNone_some, Bool.not_true, Bool.not_false, Nat.zero_add, decide_true, decide_false, if_true, if_false, Bool.false_eq_true, ↓reduceIte]
  refine ld_at h ?_
  simp only [↓o_nil, ↓o_field, ↓o_add, ↓o_sub, ↓o_mul, ↓o_lss, ↓o_leq, ↓o_gtr, ↓o_geq, ↓o_not, ↓o_pick, ↓o_eqInt, ↓o_neInt, ↓o_eqBool, ↓o_neBool, ↓o_eqPtr, ↓o_nePtr, ↓o_eqPtr', ↓o_eqSl, ↓o_neSl, ↓o_eqStr, ↓o_neStr, ↓o_len, ↓o_lenS, ↓o_min, ↓o_max, ↓o_extract, ↓o_convInt, ↓cd_true, ↓cd_false, ↓gate_tt, ↓gate_ff, ↓gate_tf, ↓gate_ft, ↓gate_undef, ↓pop_cons, ↓fin_nil, Option.isNone_none, Option.isNone_some, Bool.not_true, Bool.not_false, Nat.zero_add, decide_true, decide_false, if_true, if_false, Bool.false_eq_true, ↓reduceIte]
  refine lp_nat (fun m σ w => ∃ (i : Nat) (us : List Value), σ = [.int .i64 i] ∧ m = n - i ∧ i ≤ n ∧ us.length = i ∧
    sat E w (pts d (.cells [Value.slice (some ⟨b, 0, none⟩) n n, .slice none 0 0, .int .i64 0].toArray 79 (0, 0)) * (pts b (.cells (us ++ List.replicate (n - i) (Value.slice none 0 0)).toArray 32 (0, 0)) * (pers (immAll us (List.replicate i zeros)) * H)))) n ⟨0, [], rfl, rfl, by omega, rfl, ?_⟩ ?_
  · exact (immAll_nil h).perm (by simp; ac_rfl)
  · rintro m σ w again ⟨i, us, rfl, rfl, hi, hus, h⟩ hag
    simp only [↓o_nil, ↓o_field, ↓o_add, ↓o_sub, ↓o_mul, ↓o_lss, ↓o_leq, ↓o_gtr, ↓o_geq, ↓o_not, ↓o_pick, ↓o_eqInt, ↓o_neInt, ↓o_eqBool, ↓o_neBool, ↓o_eqPtr, ↓o_nePtr, ↓o_eqPtr', ↓o_eqSl, ↓o_neSl, ↓o_eqStr, ↓o_neStr, ↓o_len, ↓o_lenS, ↓o_min, ↓o_max, ↓o_extract, ↓o_convInt, ↓cd_true, ↓cd_false, ↓gate_tt, ↓gate_ff, ↓gate_tf, ↓gate_ft, ↓gate_undef, ↓pop_cons, ↓fin_nil, Option.isNone_none, Option.isNone_some, Bool.not_true, Bool.not_false, Nat.zero_add, decide_true, decide_false, if_true, if_false, Bool.false_eq_true, ↓reduceIte]
    refine cd_dec (fun hlt => ?_) (fun hge => ?_)
    · have hlt : i < n := by omega
      refine dr_sl h fun w h _ => ?_
      refine ld_at h ?_
      refine make_sl h rfl (by omega) (by omega) (by omega) (by omega) ?_
      intro b2 w h
      refine st_at h ?_
      rw [o_index (by omega) (by omega)]
      simp only [Int.toNat_natCast, Nat.mul_one, ↓o_nil, ↓o_field, ↓o_add, ↓o_sub, ↓o_mul, ↓o_lss, ↓o_leq, ↓o_gtr, ↓o_geq, ↓o_not, ↓o_pick, ↓o_eqInt, ↓o_neInt, ↓o_eqBool, ↓o_neBool, ↓o_eqPtr, ↓o_nePtr, ↓o_eqPtr', ↓o_eqSl, ↓o_neSl, ↓o_eqStr, ↓o_neStr, ↓o_len, ↓o_lenS, ↓o_min, ↓o_max, ↓o_extract, ↓o_convInt, ↓cd_true, ↓cd_false, ↓gate_tt, ↓gate_ff, ↓gate_tf, ↓gate_ft, ↓gate_undef, ↓pop_cons, ↓fin_nil, Option.isNone_none, Option.isNone_some, Bool.not_true, Bool.not_false, Nat.zero_add, decide_true, decide_false, if_true, if_false, Bool.false_eq_true, ↓reduceIte]
      have e3 : (256 : Int).toNat = 256 := rfl
      rw [e3] at h ⊢
      rw [zeros_map] at h
      have hf := osl_freeze (osl_of (n := 256) (sz := 1) h (by simp [zeros]) (by omega))
      refine store_sl hf rfl (by simp; omega) ?_
      intro w h
      rw [i64_of (by omega) (by omega)]
      refine hag _ _ _ (by omega) ⟨i + 1, us ++ [Value.slice (some ⟨b2, 0, none⟩) 256 256], rfl, rfl, by omega, by simp [hus], ?_⟩
      have e1 : (us ++ List.replicate (n - i) (Value.slice none 0 0)).set i (.slice (some ⟨b2, 0, none⟩) 256 256) = (us ++ [Value.slice (some ⟨b2, 0, none⟩) 256 256]) ++ List.replicate (n - (i + 1)) (Value.slice none 0 0) := by
        rw [List.set_append_right _ _ (by omega), hus, Nat.sub_self, show n - i = (n - (i + 1)) + 1 by omega, List.replicate_succ]
        simp
      rw [e1] at h
      have h4 := sat_snoc (l := zeros) (h.perm (Q := pers (immS (Value.slice (some ⟨b2, 0, none⟩) 256 256) 256 (zeros.map bv)) * (pers (immAll us (List.replicate i zeros)) * (pts d (.cells [Value.slice (some ⟨b, 0, none⟩) n n, .slice none 0 0, .int .i64 0].toArray 79 (0, 0)) * (pts b (.cells ((us ++ [Value.slice (some ⟨b2, 0, none⟩) 256 256]) ++ List.replicate (n - (i + 1)) (Value.slice none 0 0)).toArray 32 (0, 0)) * H)))) (by ac_rfl))
      rw [← List.replicate_succ'] at h4
      exact h4.perm (by ac_rfl)
    · have : i = n := by omega
      subst this
      refine k d w (sat_dsk.2 ⟨.slice (some ⟨b, 0, none⟩) i i, us, .slice none 0 0, [], rfl, ?_⟩)
      simp only [Nat.sub_self, List.replicate_zero, List.append_nil] at h
      have h2 := osl_of (n := i) (sz := 1) (h.own b) (by omega) (by omega)
      have h3 := osl_nil h2 81 2
      have h4 := immAll_nil h3
      simp only [List.length_replicate, Int.toNat_natCast]
      exact h4.perm (by ac_rfl)

theorem Read_nil {n : Int} (k : K (.tuple #[.slice none 0 0, .int .i64 1]) w) : Calls prog 18 #[.pointer none, .int .i64 n] w (Ret K) := by
  refine c18 ?_
  unfold B18
  simp only [↓o_nil, ↓o_field, ↓o_add, ↓o_sub, ↓o_mul, ↓o_lss, ↓o_leq, ↓o_gtr, ↓o_geq, ↓o_not, ↓o_pick, ↓o_eqInt, ↓o_neInt, ↓o_eqBool, ↓o_neBool, ↓o_eqPtr, ↓o_nePtr, ↓o_eqPtr', ↓o_eqSl, ↓o_neSl, ↓o_eqStr, ↓o_neStr, ↓o_len, ↓o_lenS, ↓o_min, ↓o_max, ↓o_extract, ↓o_convInt, ↓cd_true, ↓cd_false, ↓gate_tt, ↓gate_ff, ↓gate_tf, ↓gate_ft, ↓gate_undef, ↓pop_cons, ↓fin_nil, Option.isNone_none, Option.isNone_some, Bool.not_true, Bool.not_false, Nat.zero_add, decide_true, decide_false, if_true, if_false, Bool.false_eq_true, ↓reduceIte]
  exact k
theorem Read_bad {d : Nat} {L : List (List UInt8)} {W : List (Int × List UInt8)} (h : sat E w H) [s : DskS H d L W R] {n : Int} (hn : n < 0 ∨ (L.length : Int) ≤ n)
    (k : K (.tuple #[.slice none 0 0, .int .i64 2]) w) : Calls prog 18 #[.pointer (some ⟨d, 0, none⟩), .int .i64 n] w (Ret K) := by
  obtain ⟨lv, vs, wv, ws, e, hd⟩ := sat_dsk.1 (h.dsks d)
  obtain ⟨a, c, rfl, hc, hl, ha⟩ := osl_shape hd.drop
  refine c18 ?_
  unfold B18
  by_cases h1 : n < 0
  · simp only [↓o_nil, ↓o_field, ↓o_add, ↓o_sub, ↓o_mul, ↓o_lss, ↓o_leq, ↓o_gtr, ↓o_geq, ↓o_not, ↓o_pick, ↓o_eqInt, ↓o_neInt, ↓o_eqBool, ↓o_neBool, ↓o_eqPtr, ↓o_nePtr, ↓o_eqPtr', ↓o_eqSl, ↓o_neSl, ↓o_eqStr, ↓o_neStr, ↓o_len, ↓o_lenS, ↓o_min, ↓o_max, ↓o_extract, ↓o_convInt, ↓cd_true, ↓cd_false, ↓gate_tt, ↓gate_ff, ↓gate_tf, ↓gate_ft, ↓gate_undef, ↓pop_cons, ↓fin_nil, Option.isNone_none, Option.isNone_some, Bool.not_true, Bool.not_false, Nat.zero_add, decide_true, decide_false, if_true, if_false, Bool.false_eq_true, ↓reduceIte, h1]; exact k
  · have h2 : (L.length : Int) ≤ n := by omega
    simp only [↓o_nil, ↓o_field, ↓o_add, ↓o_sub, ↓o_mul, ↓o_lss, ↓o_leq, ↓o_gtr, ↓o_geq, ↓o_not, ↓o_pick, ↓o_eqInt, ↓o_neInt, ↓o_eqBool, ↓o_neBool, ↓o_eqPtr, ↓o_nePtr, ↓o_eqPtr', ↓o_eqSl, ↓o_neSl, ↓o_eqStr, ↓o_neStr, ↓o_len, ↓o_lenS, ↓o_min, ↓o_max, ↓o_extract, ↓o_convInt, ↓cd_true, ↓cd_false, ↓gate_tt, ↓gate_ff, ↓gate_tf, ↓gate_ft, ↓gate_undef, ↓pop_cons, ↓fin_nil, Option.isNone_none, Option.isNone_some, Bool.not_true, Bool.not_false, Nat.zero_add, decide_true, decide_false, if_true, if_false, Bool.false_eq_true, ↓reduceIte, h1]
    refine ld_at hd ?_
    simp only [↓o_nil, ↓o_field, ↓o_add, ↓o_sub, ↓o_mul, ↓o_lss, ↓o_leq, ↓o_gtr, ↓o_geq, ↓o_not, ↓o_pick, ↓o_eqInt, ↓o_neInt, ↓o_eqBool, ↓o_neBool, ↓o_eqPtr, ↓o_nePtr, ↓o_eqPtr', ↓o_eqSl, ↓o_neSl, ↓o_eqStr, ↓o_neStr, ↓o_len, ↓o_lenS, ↓o_min, ↓o_max, ↓o_extract, ↓o_convInt, ↓cd_true, ↓cd_false, ↓gate_tt, ↓gate_ff, ↓gate_tf, ↓gate_ft, ↓gate_undef, ↓pop_cons, ↓fin_nil, Option.isNone_none, Option.isNone_some, Bool.not_true, Bool.not_false, Nat.zero_add, decide_true, decide_false, if_true, if_false, Bool.false_eq_true, ↓reduceIte, h2]
    exact k
theorem Read_spec {d : Nat} {L : List (List UInt8)} {W : List (Int × List UInt8)} (h : sat E w H) [s : DskS H d L W R] {n : Nat} (hn : n < L.length) (hl : L[n].length ≤ 140737488355328)
    (k : ∀ v' w', sat E w' (osl 5 1 v' L[n].length (L[n].map bv) * (dsk d L W * R)) → K (.tuple #[v', .int .i64 0]) w') : Calls prog 18 #[.pointer (some ⟨d, 0, none⟩), .int .i64 n] w (Ret K) := by
  obtain ⟨lv, vs, wv, ws, e, hd⟩ := sat_dsk.1 (h.dsks d)
  obtain ⟨a, c, rfl, hc, hlen, ha⟩ := osl_shape hd.drop
  refine c18 ?_
  unfold B18
  have h1 : ¬ (n : Int) < 0 := by omega
  have h2 : ¬ (L.length : Int) ≤ n := by omega
  simp only [↓o_nil, ↓o_field, ↓o_add, ↓o_sub, ↓o_mul, ↓o_lss, ↓o_leq, ↓o_gtr, ↓o_geq, ↓o_not, ↓o_pick, ↓o_eqInt, ↓o_neInt, ↓o_eqBool, ↓o_neBool, ↓o_eqPtr, ↓o_nePtr, ↓o_eqPtr', ↓o_eqSl, ↓o_neSl, ↓o_eqStr, ↓o_neStr, ↓o_len, ↓o_lenS, ↓o_min, ↓o_max, ↓o_extract, ↓o_convInt, ↓cd_true, ↓cd_false, ↓gate_tt, ↓gate_ff, ↓gate_tf, ↓gate_ft, ↓gate_undef, ↓pop_cons, ↓fin_nil, Option.isNone_none, Option.isNone_some, Bool.not_true, Bool.not_false, Nat.zero_add, decide_true, decide_false, if_true, if_false, Bool.false_eq_true, ↓reduceIte, h1]
  refine ld_at hd ?_
  simp only [↓o_nil, ↓o_field, ↓o_add, ↓o_sub, ↓o_mul, ↓o_lss, ↓o_leq, ↓o_gtr, ↓o_geq, ↓o_not, ↓o_pick, ↓o_eqInt, ↓o_neInt, ↓o_eqBool, ↓o_neBool, ↓o_eqPtr, ↓o_nePtr, ↓o_eqPtr', ↓o_eqSl, ↓o_neSl, ↓o_eqStr, ↓o_neStr, ↓o_len, ↓o_lenS, ↓o_min, ↓o_max, ↓o_extract, ↓o_convInt, ↓cd_true, ↓cd_false, ↓gate_tt, ↓gate_ff, ↓gate_tf, ↓gate_ft, ↓gate_undef, ↓pop_cons, ↓fin_nil, Option.isNone_none, Option.isNone_some, Bool.not_true, Bool.not_false, Nat.zero_add, decide_true, decide_false, if_true, if_false, Bool.false_eq_true, ↓reduceIte, h2]
  refine ld_at hd ?_
  obtain ⟨b, o, rfl, hb⟩ := win_cell ((Rds.osl).win hd.drop.drop') (j := n) (by omega)
  rw [o_index (by omega) (by omega)]
  simp only [Int.toNat_natCast, Nat.mul_one]
  refine ld_cell hb ?_
  refine Clone_spec hd (v := vs[n]) (l := L[n]) ?_ hl ?_
  · exact (immAll_rds (List.getElem?_eq_getElem (by omega)) (List.getElem?_eq_getElem hn)).left.right.right.right
  intro v' w' h'
  refine k v' w' ?_
  have h2 := sat_dsk.2 ⟨.slice (some ⟨b, o, none⟩) L.length c, vs, wv, ws, e, h'.perm (Q := pts d (.cells [.slice (some ⟨b, o, none⟩) L.length c, wv, .int .i64 W.length].toArray 79 (0, 0)) * (osl 32 1 (.slice (some ⟨b, o, none⟩) L.length c) L.length vs * (osl 81 2 wv W.length (wcells ws) * (pers (immAll vs L) * (pers (immAll (ws.map (·.2)) (W.map (·.2))) * (osl 5 1 v' L[n].length (L[n].map bv) * R)))))) (by ac_rfl)⟩
  exact h2.perm (star_left_comm _ _ _)
/-! ### Write -/
theorem Write_nil {n v : Value} (k : K (.int .i64 1) w) : Calls prog 16 #[.pointer none, n, v] w (Ret K) := by
  refine c16 ?_
  unfold B16
  simp only [↓o_nil, ↓o_field, ↓o_add, ↓o_sub, ↓o_mul, ↓o_lss, ↓o_leq, ↓o_gtr, ↓o_geq, ↓o_not, ↓o_pick, ↓o_eqInt, ↓o_neInt, ↓o_eqBool, ↓o_neBool, ↓o_eqPtr, ↓o_nePtr, ↓o_eqPtr', ↓o_eqSl, ↓o_neSl, ↓o_eqStr, ↓o_neStr, ↓o_len, ↓o_lenS, ↓o_min, ↓o_max, ↓o_extract, ↓o_convInt, ↓cd_true, ↓cd_false, ↓gate_tt, ↓gate_ff, ↓gate_tf, ↓gate_ft, ↓gate_undef, ↓pop_cons, ↓fin_nil, Option.isNone_none, Option.isNone_some, Bool.not_true, Bool.not_false, Nat.zero_add, decide_true, decide_false, if_true, if_false, Bool.false_eq_true, ↓reduceIte]
  exact k
theorem Write_range {d : Nat} {L : List (List UInt8)} {W : List (Int × List UInt8)} (h : sat E w H) [s : DskS H d L W R] {n : Int} {v : Value} (hn : n < 0 ∨ (L.length : Int) ≤ n)
    (k : K (.int .i64 2) w) : Calls prog 16 #[.pointer (some ⟨d, 0, none⟩), .int .i64 n, v] w (Ret K) := by
  obtain ⟨lv, vs, wv, ws, e, hd⟩ := sat_dsk.1 (h.dsks d)
  obtain ⟨a, c, rfl, hc, hl, ha⟩ := osl_shape hd.drop
  refine c16 ?_
  unfold B16
  by_cases h1 : n < 0
  · simp only [↓o_nil, ↓o_field, ↓o_add, ↓o_sub, ↓o_mul, ↓o_lss, ↓o_leq, ↓o_gtr, ↓o_geq, ↓o_not, ↓o_pick, ↓o_eqInt, ↓o_neInt, ↓o_eqBool, ↓o_neBool, ↓o_eqPtr, ↓o_nePtr, ↓o_eqPtr', ↓o_eqSl, ↓o_neSl, ↓o_eqStr, ↓o_neStr, ↓o_len, ↓o_lenS, ↓o_min, ↓o_max, ↓o_extract, ↓o_convInt, ↓cd_true, ↓cd_false, ↓gate_tt, ↓gate_ff, ↓gate_tf, ↓gate_ft, ↓gate_undef, ↓pop_cons, ↓fin_nil, Option.isNone_none, Option.isNone_some, Bool.not_true, Bool.not_false, Nat.zero_add, decide_true, decide_false, if_true, if_false, Bool.false_eq_true, ↓reduceIte, h1]; exact k
  · have h2 : (L.length : Int) ≤ n := by omega
    simp only [↓o_nil, ↓o_field, ↓o_add, ↓o_sub, ↓o_mul, ↓o_lss, ↓o_leq, ↓o_gtr, ↓o_geq, ↓o_not, ↓o_pick, ↓o_eqInt, ↓o_neInt, ↓o_eqBool, ↓o_neBool, ↓o_eqPtr, ↓o_nePtr, ↓o_eqPtr', ↓o_eqSl, ↓o_neSl, ↓o_eqStr, ↓o_neStr, ↓o_len, ↓o_lenS, ↓o_min, ↓o_max, ↓o_extract, ↓o_convInt, ↓cd_true, ↓cd_false, ↓gate_tt, ↓gate_ff, ↓gate_tf, ↓gate_ft, ↓gate_undef, ↓pop_cons, ↓fin_nil, Option.isNone_none, Option.isNone_some, Bool.not_true, Bool.not_false, Nat.zero_add, decide_true, decide_false, if_true, if_false, Bool.false_eq_true, ↓reduceIte, h1]
    refine ld_at hd ?_
    simp only [↓o_nil, ↓o_field, ↓o_add, ↓o_sub, ↓o_mul, ↓o_lss, ↓o_leq, ↓o_gtr, ↓o_geq, ↓o_not, ↓o_pick, ↓o_eqInt, ↓o_neInt, ↓o_eqBool, ↓o_neBool, ↓o_eqPtr, ↓o_nePtr, ↓o_eqPtr', ↓o_eqSl, ↓o_neSl, ↓o_eqStr, ↓o_neStr, ↓o_len, ↓o_lenS, ↓o_min, ↓o_max, ↓o_extract, ↓o_convInt, ↓cd_true, ↓cd_false, ↓gate_tt, ↓gate_ff, ↓gate_tf, ↓gate_ft, ↓gate_undef, ↓pop_cons, ↓fin_nil, Option.isNone_none, Option.isNone_some, Bool.not_true, Bool.not_false, Nat.zero_add, decide_true, decide_false, if_true, if_false, Bool.false_eq_true, ↓reduceIte, h2]
    exact k
theorem Write_form {d : Nat} {L : List (List UInt8)} {W : List (Int × List UInt8)} (h : sat E w H) [s : DskS H d L W R] {n : Nat} {a : Option Addr} {m c : Nat} (hn : n < L.length) (hm : m ≠ 256)
    (k : K (.int .i64 3) w) : Calls prog 16 #[.pointer (some ⟨d, 0, none⟩), .int .i64 n, .slice a m c] w (Ret K) := by
  obtain ⟨lv, vs, wv, ws, e, hd⟩ := sat_dsk.1 (h.dsks d)
  obtain ⟨a, c, rfl, hc, hl, ha⟩ := osl_shape hd.drop
  refine c16 ?_
  unfold B16
  have h1 : ¬ (n : Int) < 0 := by omega
  have h2 : ¬ (L.length : Int) ≤ n := by omega
  have h3 : ¬ (m : Int) = 256 := by omega
  simp only [↓o_nil, ↓o_field, ↓o_add, ↓o_sub, ↓o_mul, ↓o_lss, ↓o_leq, ↓o_gtr, ↓o_geq, ↓o_not, ↓o_pick, ↓o_eqInt, ↓o_neInt, ↓o_eqBool, ↓o_neBool, ↓o_eqPtr, ↓o_nePtr, ↓o_eqPtr', ↓o_eqSl, ↓o_neSl, ↓o_eqStr, ↓o_neStr, ↓o_len, ↓o_lenS, ↓o_min, ↓o_max, ↓o_extract, ↓o_convInt, ↓cd_true, ↓cd_false, ↓gate_tt, ↓gate_ff, ↓gate_tf, ↓gate_ft, ↓gate_undef, ↓pop_cons, ↓fin_nil, Option.isNone_none, Option.isNone_some, Bool.not_true, Bool.not_false, Nat.zero_add, decide_true, decide_false, if_true, if_false, Bool.false_eq_true, ↓reduceIte, h1]
  refine ld_at hd ?_
  simp only [↓o_nil, ↓o_field, ↓o_add, ↓o_sub, ↓o_mul, ↓o_lss, ↓o_leq, ↓o_gtr, ↓o_geq, ↓o_not, ↓o_pick, ↓o_eqInt, ↓o_neInt, ↓o_eqBool, ↓o_neBool, ↓o_eqPtr, ↓o_nePtr, ↓o_eqPtr', ↓o_eqSl, ↓o_neSl, ↓o_eqStr, ↓o_neStr, ↓o_len, ↓o_lenS, ↓o_min, ↓o_max, ↓o_extract, ↓o_convInt, ↓cd_true, ↓cd_false, ↓gate_tt, ↓gate_ff, ↓gate_tf, ↓gate_ft, ↓gate_undef, ↓pop_cons, ↓fin_nil, Option.isNone_none, Option.isNone_some, Bool.not_true, Bool.not_false, Nat.zero_add, decide_true, decide_false, if_true, if_false, Bool.false_eq_true, ↓reduceIte, h2, h3]
  exact k
theorem wcells_length (ws : List (Int × Value)) : (wcells ws).length = ws.length * 2 := by
  induction ws with
  | nil => rfl
  | cons x r ih => simp [wcells] at ih ⊢; omega
theorem wcells_snoc (ws : List (Int × Value)) (n : Int) (v : Value) : wcells (ws ++ [(n, v)]) = wcells ws ++ [.int .i64 n, v] := by simp [wcells]
theorem Write_spec {d : Nat} {L : List (List UInt8)} {W : List (Int × List UInt8)} (h : sat E w H) [s : DskS H d L W R] {n : Nat} {v : Value} {l : List UInt8} (hn : n < L.length) (hl : l.length = 256) (hW : W.length ≤ 1000000)
    (hv : Rds R v l.length (l.map bv))
    (k : ∀ w', sat E w' (dsk d (L.set n l) (W ++ [((n : Int), L[n])]) * R) → K (.int .i64 0) w') : Calls prog 16 #[.pointer (some ⟨d, 0, none⟩), .int .i64 n, v] w (Ret K) := by
  obtain ⟨lv, vs, wv, ws, e, hd⟩ := sat_dsk.1 (h.dsks d)
  obtain ⟨av, cv, rfl, hcv, hv, ha⟩ := hv.shape hd.drop.drop.drop.drop.drop
  have hL := hd.drop.drop.drop.pers_get.1
  obtain ⟨ab, cb, hvs, _, _⟩ := hd.drop.drop.drop.pers_get.2 n vs[n] L[n] (List.getElem?_eq_getElem (by omega)) (List.getElem?_eq_getElem hn)
  have hL2 : ws.length = W.length := by simpa using hd.drop.drop.drop.drop.pers_get.1
  obtain ⟨aw, cw, rfl, hcw, hwl, _⟩ := osl_shape hd.drop.drop
  obtain ⟨bl, cl, spl, rfl, hlen, hc, hP, hcl⟩ := osl_open (hd.perm (star_left_comm _ _ _)) (by omega)
  refine c16 ?_
  unfold B16
  have h1 : ¬ (n : Int) < 0 := by omega
  have h2 : ¬ (L.length : Int) ≤ n := by omega
  have h3 : (l.length : Int) = 256 := by omega
  have hget : (vs ++ spl)[n]? = some vs[n] := by rw [List.getElem?_append_left (by omega), List.getElem?_eq_getElem (by omega)]
  simp only [↓o_nil, ↓o_field, ↓o_add, ↓o_sub, ↓o_mul, ↓o_lss, ↓o_leq, ↓o_gtr, ↓o_geq, ↓o_not, ↓o_pick, ↓o_eqInt, ↓o_neInt, ↓o_eqBool, ↓o_neBool, ↓o_eqPtr, ↓o_nePtr, ↓o_eqPtr', ↓o_eqSl, ↓o_neSl, ↓o_eqStr, ↓o_neStr, ↓o_len, ↓o_lenS, ↓o_min, ↓o_max, ↓o_extract, ↓o_convInt, ↓cd_true, ↓cd_false, ↓gate_tt, ↓gate_ff, ↓gate_tf, ↓gate_ft, ↓gate_undef, ↓pop_cons, ↓fin_nil, Option.isNone_none, Option.isNone_some, Bool.not_true, Bool.not_false, Nat.zero_add, decide_true, decide_false, if_true, if_false, Bool.false_eq_true, ↓reduceIte, h1]
  refine ld_at hP ?_
  simp only [↓o_nil, ↓o_field, ↓o_add, ↓o_sub, ↓o_mul, ↓o_lss, ↓o_leq, ↓o_gtr, ↓o_geq, ↓o_not, ↓o_pick, ↓o_eqInt, ↓o_neInt, ↓o_eqBool, ↓o_neBool, ↓o_eqPtr, ↓o_nePtr, ↓o_eqPtr', ↓o_eqSl, ↓o_neSl, ↓o_eqStr, ↓o_neStr, ↓o_len, ↓o_lenS, ↓o_min, ↓o_max, ↓o_extract, ↓o_convInt, ↓cd_true, ↓cd_false, ↓gate_tt, ↓gate_ff, ↓gate_tf, ↓gate_ft, ↓gate_undef, ↓pop_cons, ↓fin_nil, Option.isNone_none, Option.isNone_some, Bool.not_true, Bool.not_false, Nat.zero_add, decide_true, decide_false, if_true, if_false, Bool.false_eq_true, ↓reduceIte, h2, h3]
  refine dr_sl hP fun w hP _ => ?_
  refine ld_at hP ?_
  refine ld_at hP ?_
  rw [o_index (by omega) (by omega)]
  simp only [Int.toNat_natCast, Nat.mul_one, Nat.zero_add]
  refine ld_in hP hget ?_
  rw [hvs] at hget ⊢
  refine pvv_of (v := .agg #[.int .i64 n, .slice ab L[n].length cb]) (fun _ => by kernel_rfl) ?_
  refine buildSlice_sl (e := 81) (cs := #[.int .i64 n, .slice ab L[n].length cb]) hP (fun w => by kernel_rfl) fun b1 w hP => ?_
  refine st_in hP hget ?_
  refine st_at hP ?_
  refine st_at hP ?_
  refine append_sl hP [.int .i64 n, .slice ab L[n].length cb] rfl (.inr ⟨b1, 0, _, 81, (0, 0), rfl, hP.pts_get, fun j v hj => by simpa using hj⟩) (by simp [Value.oneCell']) (by omega) (by omega) fun v' w hP => ?_
  obtain ⟨a4, c4, rfl, _, _, _⟩ := osl_shape hP
  refine st_in hP hget ?_
  refine st_at hP ?_
  refine store_at hP rfl (by simp) fun w hP => ?_
  refine atAdd_spec hP (xs := [_, _, .int .i64 W.length]) rfl fun w hP => ?_
  refine dr_sl hP fun w hP _ => ?_
  refine ld_in hP (v := .slice (some ⟨bl, 0, none⟩) L.length cl) (by simp) ?_
  refine Clone_spec hP (v := .slice av l.length cv) (l := l) (Rds.under hv) (by omega) fun v5 w hP => ?_
  have hP := osl_freeze hP
  obtain ⟨a5, c5, rfl, hc5, _⟩ := hP.pers_get
  refine st_in hP (v := .slice (some ⟨bl, 0, none⟩) L.length cl) (by simp) ?_
  rw [o_index (by omega) (by omega)]
  simp only [Int.toNat_natCast, Nat.mul_one, Nat.zero_add]
  refine store_sl hP rfl (by simp; omega) fun w hP => k w ?_
  rw [i64_of (by omega) (by omega), List.set_append_left _ _ (by omega)] at hP
  have hP := hcl (by simp) hP
  have hI := (hP.perm (Q := pers ((immS (.slice a5 l.length c5) l.length (l.map bv)).and ((immAll vs L).and (immAll (ws.map (·.2)) (W.map (·.2))))) *
    (pts d (.cells [.slice (some ⟨bl, 0, none⟩) L.length cl, .slice a4 (W.length + 1) c4, .int .i64 (W.length + 1)].toArray 79 (0, 0)) * (osl 32 1 (.slice (some ⟨bl, 0, none⟩) L.length cl) L.length (vs.set n (.slice a5 l.length c5)) *
    (osl 81 2 (.slice a4 (W.length + 1) c4) (W.length + 1) (wcells ws ++ [.int .i64 n, .slice ab L[n].length cb]) * (pts b1 (.cells #[.int .i64 n, .slice ab L[n].length cb] 81 (0, 0)) * R))))) (by
      rw [← pers_and, ← pers_and]; simp only [List.set]; ac_rfl)).pers_mono (ψ := (immAll (vs.set n (.slice a5 l.length c5)) (L.set n l)).and (immAll (ws.map (·.2) ++ [.slice ab L[n].length cb]) (W.map (·.2) ++ [L[n]]))) (fun I hI =>
        ⟨immAll_set hI.2.1 hI.1, immAll_snoc hI.2.2 (hI.2.1.2 n _ L[n] (by rw [List.getElem?_eq_getElem (by omega), hvs]) (List.getElem?_eq_getElem hn))⟩)
  rw [← pers_and] at hI
  refine sat_dsk.2 ⟨.slice (some ⟨bl, 0, none⟩) L.length cl, vs.set n (.slice a5 l.length c5), .slice a4 (W.length + 1) c4, ws ++ [((n : Int), .slice ab L[n].length cb)], by simp [e], ?_⟩
  rw [wcells_snoc]
  simp only [List.length_set, List.length_append, List.length_cons, List.length_nil, List.map_append, List.map_cons, List.map_nil]
  exact (hI.perm (Q := pts b1 (.cells #[.int .i64 n, .slice ab L[n].length cb] 81 (0, 0)) * _) (by ac_rfl)).drop
end Go.Proofs.Yteplajobjlehlaa
