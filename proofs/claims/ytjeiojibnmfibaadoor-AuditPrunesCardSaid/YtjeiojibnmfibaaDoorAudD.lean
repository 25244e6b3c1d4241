/-
  A chain's events, copied; adding an event.
-/
import Derived.Test.YtjeiojibnmfibaaDoorAudC
set_option linter.all false
set_option maxRecDepth 10000
namespace Go.Proofs.YtjeiojibnmfibaaDoor
open Go Hold
variable {E : World0} {w : World} {H R : HP} {K : Value → World → Prop}
theorem osl_empty {b : Nat} (h : sat E w (pts b (.cells #[] 34 (0, 0)) * R)) : sat E w (osl 34 4 (.slice (some ⟨b, 0, none⟩) 0 0) 0 [] * R) :=
  sat_osl.2 (.inr ⟨b, 0, [], rfl, rfl, rfl, Nat.le_refl _, by omega, h⟩)
theorem CloneE_spec (h : sat E w H) {a : Option Addr} {n c : Nat} {xs : List Value} (hx : xs.length = n * 4) (h1 : ∀ x ∈ xs, x.oneCell' = true) (hv : Rds H (.slice a n c) n xs) (hn : n ≤ 1000)
    (k : ∀ v w', sat E w' (osl 34 4 v n xs * H) → K v w') : Calls prog 30 #[.slice a n c] w (Ret K) := by
  refine c30 ?_
  unfold B30
  rw [o_eqSl]
  cases a with
  | none =>
    obtain ⟨_, _, _, _, _, ha⟩ := hv.shape h
    have hw := hv.win h
    have hxs : xs = [] := by
      rcases hw with h | ⟨_, _, _, _, _, h, _⟩
      · exact h
      · cases h
    subst hxs
    have hn0 : n = 0 := by simp at hx; omega
    subst hn0
    try simp only [↓o_nil, ↓o_field, ↓o_add, ↓o_sub, ↓o_mul, ↓o_lss, ↓o_leq, ↓o_gtr, ↓o_geq, ↓o_not, ↓o_pick, ↓o_eqInt, ↓o_neInt, ↓o_eqBool, ↓o_neBool, ↓o_eqPtr, ↓o_nePtr, ↓o_eqPtr', ↓o_eqSl, ↓o_neSl, ↓o_eqStr, ↓o_neStr, ↓o_len, ↓o_lenS, ↓o_min, ↓o_max, ↓o_extract, ↓o_convInt, ↓cd_true, ↓cd_false, ↓gate_tt, ↓gate_ff, ↓gate_tf, ↓gate_ft, ↓gate_undef, ↓o_bind, ↓stay_v, ↓pop_cons, ↓fin_nil, Option.isNone_none, Option.isNone_some, Bool.not_true, Bool.not_false, Nat.zero_add, decide_true, decide_false, if_true, if_false, Bool.false_eq_true, ↓reduceIte]
    exact k _ _ (osl_nil h 34 4)
  | some a =>
    try simp only [↓o_nil, ↓o_field, ↓o_add, ↓o_sub, ↓o_mul, ↓o_lss, ↓o_leq, ↓o_gtr, ↓o_geq, ↓o_not, ↓o_pick, ↓o_eqInt, ↓o_neInt, ↓o_eqBool, ↓o_neBool, ↓o_eqPtr, ↓o_nePtr, ↓o_eqPtr', ↓o_eqSl, ↓o_neSl, ↓o_eqStr, ↓o_neStr, ↓o_len, ↓o_lenS, ↓o_min, ↓o_max, ↓o_extract, ↓o_convInt, ↓cd_true, ↓cd_false, ↓gate_tt, ↓gate_ff, ↓gate_tf, ↓gate_ft, ↓gate_undef, ↓o_bind, ↓stay_v, ↓pop_cons, ↓fin_nil, Option.isNone_none, Option.isNone_some, Bool.not_true, Bool.not_false, Nat.zero_add, decide_true, decide_false, if_true, if_false, Bool.false_eq_true, ↓reduceIte]
    refine buildSlice_sl (e := 34) (cs := #[]) h (fun w => by kernel_rfl) fun b w h => ?_
    have h := osl_empty h
    refine append_sl (v := .slice (some ⟨b, 0, none⟩) 0 0) h xs hx (hv.win h.drop) h1 (by omega) (by omega) fun v w h => ?_
    refine k v w ?_
    simpa using h
theorem Events_spec {p m : Nat} {s : Ch} {v : Value} (ok : Ok s m) (h : sat E w (chI p s v R)) (k : ∀ u w', sat E w' (osl 34 4 u s.l.length (evs s.l) * chI p s v R) → K u w') : Calls prog 13 #[.pointer (some ⟨p, 0, none⟩)] w (Ret K) := by
  have := ok.few
  obtain ⟨a, c, rfl, hc, hv, _⟩ := (Rds.evs (s := s)).shape h
  refine c13 ?_
  unfold B13
  try simp only [↓o_nil, ↓o_field, ↓o_add, ↓o_sub, ↓o_mul, ↓o_lss, ↓o_leq, ↓o_gtr, ↓o_geq, ↓o_not, ↓o_pick, ↓o_eqInt, ↓o_neInt, ↓o_eqBool, ↓o_neBool, ↓o_eqPtr, ↓o_nePtr, ↓o_eqPtr', ↓o_eqSl, ↓o_neSl, ↓o_eqStr, ↓o_neStr, ↓o_len, ↓o_lenS, ↓o_min, ↓o_max, ↓o_extract, ↓o_convInt, ↓cd_true, ↓cd_false, ↓gate_tt, ↓gate_ff, ↓gate_tf, ↓gate_ft, ↓gate_undef, ↓o_bind, ↓stay_v, ↓pop_cons, ↓fin_nil, Option.isNone_none, Option.isNone_some, Bool.not_true, Bool.not_false, Nat.zero_add, decide_true, decide_false, if_true, if_false, Bool.false_eq_true, ↓reduceIte]
  refine ld_in (b := p) (v := .slice a s.l.length c) h (ic_l ok) ?_
  exact CloneE_spec h (evs_length _) (evs_one _) hv (by omega) fun u w h => k u w h
theorem Events_nil (k : K (.slice none 0 0) w) : Calls prog 13 #[.pointer none] w (Ret K) := by
  refine c13 ?_
  unfold B13
  try simp only [↓o_nil, ↓o_field, ↓o_add, ↓o_sub, ↓o_mul, ↓o_lss, ↓o_leq, ↓o_gtr, ↓o_geq, ↓o_not, ↓o_pick, ↓o_eqInt, ↓o_neInt, ↓o_eqBool, ↓o_neBool, ↓o_eqPtr, ↓o_nePtr, ↓o_eqPtr', ↓o_eqSl, ↓o_neSl, ↓o_eqStr, ↓o_neStr, ↓o_len, ↓o_lenS, ↓o_min, ↓o_max, ↓o_extract, ↓o_convInt, ↓cd_true, ↓cd_false, ↓gate_tt, ↓gate_ff, ↓gate_tf, ↓gate_ft, ↓gate_undef, ↓o_bind, ↓stay_v, ↓pop_cons, ↓fin_nil, Option.isNone_none, Option.isNone_some, Bool.not_true, Bool.not_false, Nat.zero_add, decide_true, decide_false, if_true, if_false, Bool.false_eq_true, ↓reduceIte]
  exact k
def newE (s : Ch) (t : Int) (a b : List UInt8) : Evt := ⟨s.bn + s.l.length + 1, t, a, b⟩
def addS (s : Ch) (t : Int) (a b : List UInt8) : Ch × Evt × Int :=
  if t < 0 ∨ 1099511627776 < t then (s, zeroE, 2)
  else if 12 < a.length ∨ 30 < b.length then (s, zeroE, 6)
  else if t < s.last then (s, zeroE, 9)
  else if 64 ≤ s.l.length then (s, zeroE, 26)
  else ({ s with l := s.l ++ [newE s t a b], hd := nx s.hd (newE s t a b), last := t }, newE s t a b, 0)
theorem ok_add {s : Ch} {m : Nat} {t : Int} {a b : List UInt8} (ok : Ok s m) : Ok (addS s t a b).1 (m + 1) := by
  have ok1 : Ok s (m + 1) := ⟨ok.b, ok.a, ok.h, ok.b0, ok.a0, ok.le, by have := ok.top; omega, ok.few⟩
  unfold addS
  split
  · exact ok1
  · split
    · exact ok1
    · split
      · exact ok1
      · split
        · exact ok1
        · have := ok.le; have := ok.top
          exact ⟨ok.b, ok.a, nx_length _ _, ok.b0, ok.a0, by simp; omega, by simp; omega, by simp; omega⟩
theorem evt_ret (h : sat E w H) {b : Nat} {x y : Evt} {e : Int} [Own H b (.cells (ecells x).toArray 34 (0, 0)) R] (k : ∀ w', sat E w' (pts b (.cells (ecells y).toArray 34 (0, 0)) * R) → K (.tuple #[ev y, .int .i64 e]) w') :
    efu prog (Instr.storeAt 34 (.pointer (some ⟨b, 0, none⟩)) (ev y)) w fun _ w => ∃ r, (do loadVar 34 (← asAddr (.pointer (some ⟨b, 0, none⟩)))).run prog w = .ok r w ∧ K (.tuple #[r, .int .i64 e]) w :=
  res_all (K := fun r w => K (.tuple #[r, .int .i64 e]) w) (b := b) h (xs := ecells x) (vs := ecells y) rfl rfl (ecells_one y) k
theorem zeroE_build (k : K (ev zeroE) w) : pvv prog (Instr.build 34 #[]) w K := pvv_of (fun w => by kernel_rfl) k
theorem Add_nil (h : sat E w H) {t : Int} {x y : Value} (k : ∀ w', sat E w' H → K (.tuple #[ev zeroE, .int .i64 1]) w') : Calls prog 16 #[.pointer none, .int .i64 t, x, y] w (Ret K) := by
  refine c16 ?_
  unfold B16
  refine alloc_sl h fun b0 w h => ?_
  have h : sat E w (pts b0 (.cells (ecells zeroE).toArray 34 (0, 0)) * H) := h
  try simp only [↓o_nil, ↓o_field, ↓o_add, ↓o_sub, ↓o_mul, ↓o_lss, ↓o_leq, ↓o_gtr, ↓o_geq, ↓o_not, ↓o_pick, ↓o_eqInt, ↓o_neInt, ↓o_eqBool, ↓o_neBool, ↓o_eqPtr, ↓o_nePtr, ↓o_eqPtr', ↓o_eqSl, ↓o_neSl, ↓o_eqStr, ↓o_neStr, ↓o_len, ↓o_lenS, ↓o_min, ↓o_max, ↓o_extract, ↓o_convInt, ↓cd_true, ↓cd_false, ↓gate_tt, ↓gate_ff, ↓gate_tf, ↓gate_ft, ↓gate_undef, ↓o_bind, ↓stay_v, ↓pop_cons, ↓fin_nil, Option.isNone_none, Option.isNone_some, Bool.not_true, Bool.not_false, Nat.zero_add, decide_true, decide_false, if_true, if_false, Bool.false_eq_true, ↓reduceIte]
  refine zeroE_build ?_
  exact evt_ret (b := b0) (x := zeroE) h fun w h => k _ h.drop
theorem Add_spec {p m : Nat} {s : Ch} {v : Value} {t : Int} {a b : List UInt8} (ok : Ok s m) (hm : m ≤ 1000000000000) (hd : Dbt R) (h : sat E w (chI p s v R))
    (k : ∀ v' w', sat E w' (chI p (addS s t a b).1 v' R) → K (.tuple #[ev (addS s t a b).2.1, .int .i64 (addS s t a b).2.2]) w') : Calls prog 16 #[.pointer (some ⟨p, 0, none⟩), .int .i64 t, tv a, tv b] w (Ret K) := by
  have := ok.few; have := ok.top; have := ok.b0
  obtain ⟨va, vc, rfl, hc, hv, _⟩ := (Rds.evs (s := s)).shape h
  refine c16 ?_
  unfold B16
  refine alloc_sl h fun b0 w h => ?_
  have h : sat E w (pts b0 (.cells (ecells zeroE).toArray 34 (0, 0)) * chI p s (.slice va s.l.length vc) R) := h
  simp only [↓o_eqPtr, Option.isNone_some, ↓cd_false]
  rw [o_lss]
  by_cases h1 : t < 0
  · have e : addS s t a b = (s, zeroE, 2) := by unfold addS; rw [if_pos (.inl h1)]
    simp only [h1, ↓o_nil, ↓o_field, ↓o_add, ↓o_sub, ↓o_mul, ↓o_lss, ↓o_leq, ↓o_gtr, ↓o_geq, ↓o_not, ↓o_pick, ↓o_eqInt, ↓o_neInt, ↓o_eqBool, ↓o_neBool, ↓o_eqPtr, ↓o_nePtr, ↓o_eqPtr', ↓o_eqSl, ↓o_neSl, ↓o_eqStr, ↓o_neStr, ↓o_len, ↓o_lenS, ↓o_min, ↓o_max, ↓o_extract, ↓o_convInt, ↓cd_true, ↓cd_false, ↓gate_tt, ↓gate_ff, ↓gate_tf, ↓gate_ft, ↓gate_undef, ↓o_bind, ↓stay_v, ↓pop_cons, ↓fin_nil, Option.isNone_none, Option.isNone_some, Bool.not_true, Bool.not_false, Nat.zero_add, decide_true, decide_false, if_true, if_false, Bool.false_eq_true, ↓reduceIte]
    refine zeroE_build ?_
    exact evt_ret (b := b0) (x := zeroE) h fun w h => by rw [e] at k; exact k _ _ h.drop
  simp only [h1, ↓o_nil, ↓o_field, ↓o_add, ↓o_sub, ↓o_mul, ↓o_lss, ↓o_leq, ↓o_gtr, ↓o_geq, ↓o_not, ↓o_pick, ↓o_eqInt, ↓o_neInt, ↓o_eqBool, ↓o_neBool, ↓o_eqPtr, ↓o_nePtr, ↓o_eqPtr', ↓o_eqSl, ↓o_neSl, ↓o_eqStr, ↓o_neStr, ↓o_len, ↓o_lenS, ↓o_min, ↓o_max, ↓o_extract, ↓o_convInt, ↓cd_true, ↓cd_false, ↓gate_tt, ↓gate_ff, ↓gate_tf, ↓gate_ft, ↓gate_undef, ↓o_bind, ↓stay_v, ↓pop_cons, ↓fin_nil, Option.isNone_none, Option.isNone_some, Bool.not_true, Bool.not_false, Nat.zero_add, decide_true, decide_false, if_true, if_false, Bool.false_eq_true, ↓reduceIte]
  by_cases h2 : 1099511627776 < t
  · have e : addS s t a b = (s, zeroE, 2) := by unfold addS; rw [if_pos (.inr h2)]
    simp only [h2, ↓o_nil, ↓o_field, ↓o_add, ↓o_sub, ↓o_mul, ↓o_lss, ↓o_leq, ↓o_gtr, ↓o_geq, ↓o_not, ↓o_pick, ↓o_eqInt, ↓o_neInt, ↓o_eqBool, ↓o_neBool, ↓o_eqPtr, ↓o_nePtr, ↓o_eqPtr', ↓o_eqSl, ↓o_neSl, ↓o_eqStr, ↓o_neStr, ↓o_len, ↓o_lenS, ↓o_min, ↓o_max, ↓o_extract, ↓o_convInt, ↓cd_true, ↓cd_false, ↓gate_tt, ↓gate_ff, ↓gate_tf, ↓gate_ft, ↓gate_undef, ↓o_bind, ↓stay_v, ↓pop_cons, ↓fin_nil, Option.isNone_none, Option.isNone_some, Bool.not_true, Bool.not_false, Nat.zero_add, decide_true, decide_false, if_true, if_false, Bool.false_eq_true, ↓reduceIte]
    refine zeroE_build ?_
    exact evt_ret (b := b0) (x := zeroE) h fun w h => by rw [e] at k; exact k _ _ h.drop
  have n1 : ¬ (t < 0 ∨ 1099511627776 < t) := by omega
  simp only [h2, ↓o_nil, ↓o_field, ↓o_add, ↓o_sub, ↓o_mul, ↓o_lss, ↓o_leq, ↓o_gtr, ↓o_geq, ↓o_not, ↓o_pick, ↓o_eqInt, ↓o_neInt, ↓o_eqBool, ↓o_neBool, ↓o_eqPtr, ↓o_nePtr, ↓o_eqPtr', ↓o_eqSl, ↓o_neSl, ↓o_eqStr, ↓o_neStr, ↓o_len, ↓o_lenS, ↓o_min, ↓o_max, ↓o_extract, ↓o_convInt, ↓cd_true, ↓cd_false, ↓gate_tt, ↓gate_ff, ↓gate_tf, ↓gate_ft, ↓gate_undef, ↓o_bind, ↓stay_v, ↓pop_cons, ↓fin_nil, Option.isNone_none, Option.isNone_some, Bool.not_true, Bool.not_false, Nat.zero_add, decide_true, decide_false, if_true, if_false, Bool.false_eq_true, ↓reduceIte]
  rw [o_lenT, o_gtr]
  by_cases h3 : (12 : Int) < a.length
  · have e : addS s t a b = (s, zeroE, 6) := by unfold addS; rw [if_neg n1, if_pos (.inl (by omega))]
    simp only [h3, ↓o_nil, ↓o_field, ↓o_add, ↓o_sub, ↓o_mul, ↓o_lss, ↓o_leq, ↓o_gtr, ↓o_geq, ↓o_not, ↓o_pick, ↓o_eqInt, ↓o_neInt, ↓o_eqBool, ↓o_neBool, ↓o_eqPtr, ↓o_nePtr, ↓o_eqPtr', ↓o_eqSl, ↓o_neSl, ↓o_eqStr, ↓o_neStr, ↓o_len, ↓o_lenS, ↓o_min, ↓o_max, ↓o_extract, ↓o_convInt, ↓cd_true, ↓cd_false, ↓gate_tt, ↓gate_ff, ↓gate_tf, ↓gate_ft, ↓gate_undef, ↓o_bind, ↓stay_v, ↓pop_cons, ↓fin_nil, Option.isNone_none, Option.isNone_some, Bool.not_true, Bool.not_false, Nat.zero_add, decide_true, decide_false, if_true, if_false, Bool.false_eq_true, ↓reduceIte]
    refine zeroE_build ?_
    exact evt_ret (b := b0) (x := zeroE) h fun w h => by rw [e] at k; exact k _ _ h.drop
  simp only [h3, ↓o_nil, ↓o_field, ↓o_add, ↓o_sub, ↓o_mul, ↓o_lss, ↓o_leq, ↓o_gtr, ↓o_geq, ↓o_not, ↓o_pick, ↓o_eqInt, ↓o_neInt, ↓o_eqBool, ↓o_neBool, ↓o_eqPtr, ↓o_nePtr, ↓o_eqPtr', ↓o_eqSl, ↓o_neSl, ↓o_eqStr, ↓o_neStr, ↓o_len, ↓o_lenS, ↓o_min, ↓o_max, ↓o_extract, ↓o_convInt, ↓cd_true, ↓cd_false, ↓gate_tt, ↓gate_ff, ↓gate_tf, ↓gate_ft, ↓gate_undef, ↓o_bind, ↓stay_v, ↓pop_cons, ↓fin_nil, Option.isNone_none, Option.isNone_some, Bool.not_true, Bool.not_false, Nat.zero_add, decide_true, decide_false, if_true, if_false, Bool.false_eq_true, ↓reduceIte]
  rw [o_lenT, o_gtr]
  by_cases h4 : (30 : Int) < b.length
  · have e : addS s t a b = (s, zeroE, 6) := by unfold addS; rw [if_neg n1, if_pos (.inr (by omega))]
    simp only [h4, ↓o_nil, ↓o_field, ↓o_add, ↓o_sub, ↓o_mul, ↓o_lss, ↓o_leq, ↓o_gtr, ↓o_geq, ↓o_not, ↓o_pick, ↓o_eqInt, ↓o_neInt, ↓o_eqBool, ↓o_neBool, ↓o_eqPtr, ↓o_nePtr, ↓o_eqPtr', ↓o_eqSl, ↓o_neSl, ↓o_eqStr, ↓o_neStr, ↓o_len, ↓o_lenS, ↓o_min, ↓o_max, ↓o_extract, ↓o_convInt, ↓cd_true, ↓cd_false, ↓gate_tt, ↓gate_ff, ↓gate_tf, ↓gate_ft, ↓gate_undef, ↓o_bind, ↓stay_v, ↓pop_cons, ↓fin_nil, Option.isNone_none, Option.isNone_some, Bool.not_true, Bool.not_false, Nat.zero_add, decide_true, decide_false, if_true, if_false, Bool.false_eq_true, ↓reduceIte]
    refine zeroE_build ?_
    exact evt_ret (b := b0) (x := zeroE) h fun w h => by rw [e] at k; exact k _ _ h.drop
  have n2 : ¬ (12 < a.length ∨ 30 < b.length) := by omega
  simp only [h4, ↓o_nil, ↓o_field, ↓o_add, ↓o_sub, ↓o_mul, ↓o_lss, ↓o_leq, ↓o_gtr, ↓o_geq, ↓o_not, ↓o_pick, ↓o_eqInt, ↓o_neInt, ↓o_eqBool, ↓o_neBool, ↓o_eqPtr, ↓o_nePtr, ↓o_eqPtr', ↓o_eqSl, ↓o_neSl, ↓o_eqStr, ↓o_neStr, ↓o_len, ↓o_lenS, ↓o_min, ↓o_max, ↓o_extract, ↓o_convInt, ↓cd_true, ↓cd_false, ↓gate_tt, ↓gate_ff, ↓gate_tf, ↓gate_ft, ↓gate_undef, ↓o_bind, ↓stay_v, ↓pop_cons, ↓fin_nil, Option.isNone_none, Option.isNone_some, Bool.not_true, Bool.not_false, Nat.zero_add, decide_true, decide_false, if_true, if_false, Bool.false_eq_true, ↓reduceIte]
  refine ld_in (b := p) (v := .int .i64 s.last) h (ic_last ok) ?_
  rw [o_lss]
  by_cases h5 : t < s.last
  · have e : addS s t a b = (s, zeroE, 9) := by unfold addS; rw [if_neg n1, if_neg n2, if_pos h5]
    simp only [h5, ↓o_nil, ↓o_field, ↓o_add, ↓o_sub, ↓o_mul, ↓o_lss, ↓o_leq, ↓o_gtr, ↓o_geq, ↓o_not, ↓o_pick, ↓o_eqInt, ↓o_neInt, ↓o_eqBool, ↓o_neBool, ↓o_eqPtr, ↓o_nePtr, ↓o_eqPtr', ↓o_eqSl, ↓o_neSl, ↓o_eqStr, ↓o_neStr, ↓o_len, ↓o_lenS, ↓o_min, ↓o_max, ↓o_extract, ↓o_convInt, ↓cd_true, ↓cd_false, ↓gate_tt, ↓gate_ff, ↓gate_tf, ↓gate_ft, ↓gate_undef, ↓o_bind, ↓stay_v, ↓pop_cons, ↓fin_nil, Option.isNone_none, Option.isNone_some, Bool.not_true, Bool.not_false, Nat.zero_add, decide_true, decide_false, if_true, if_false, Bool.false_eq_true, ↓reduceIte]
    refine zeroE_build ?_
    exact evt_ret (b := b0) (x := zeroE) h fun w h => by rw [e] at k; exact k _ _ h.drop
  simp only [h5, ↓o_nil, ↓o_field, ↓o_add, ↓o_sub, ↓o_mul, ↓o_lss, ↓o_leq, ↓o_gtr, ↓o_geq, ↓o_not, ↓o_pick, ↓o_eqInt, ↓o_neInt, ↓o_eqBool, ↓o_neBool, ↓o_eqPtr, ↓o_nePtr, ↓o_eqPtr', ↓o_eqSl, ↓o_neSl, ↓o_eqStr, ↓o_neStr, ↓o_len, ↓o_lenS, ↓o_min, ↓o_max, ↓o_extract, ↓o_convInt, ↓cd_true, ↓cd_false, ↓gate_tt, ↓gate_ff, ↓gate_tf, ↓gate_ft, ↓gate_undef, ↓o_bind, ↓stay_v, ↓pop_cons, ↓fin_nil, Option.isNone_none, Option.isNone_some, Bool.not_true, Bool.not_false, Nat.zero_add, decide_true, decide_false, if_true, if_false, Bool.false_eq_true, ↓reduceIte]
  refine ld_in (b := p) (v := .slice va s.l.length vc) h (ic_l ok) ?_
  rw [o_len, o_geq]
  by_cases h6 : (64 : Int) ≤ s.l.length
  · have e : addS s t a b = (s, zeroE, 26) := by unfold addS; rw [if_neg n1, if_neg n2, if_neg h5, if_pos (by omega)]
    simp only [h6, ↓o_nil, ↓o_field, ↓o_add, ↓o_sub, ↓o_mul, ↓o_lss, ↓o_leq, ↓o_gtr, ↓o_geq, ↓o_not, ↓o_pick, ↓o_eqInt, ↓o_neInt, ↓o_eqBool, ↓o_neBool, ↓o_eqPtr, ↓o_nePtr, ↓o_eqPtr', ↓o_eqSl, ↓o_neSl, ↓o_eqStr, ↓o_neStr, ↓o_len, ↓o_lenS, ↓o_min, ↓o_max, ↓o_extract, ↓o_convInt, ↓cd_true, ↓cd_false, ↓gate_tt, ↓gate_ff, ↓gate_tf, ↓gate_ft, ↓gate_undef, ↓o_bind, ↓stay_v, ↓pop_cons, ↓fin_nil, Option.isNone_none, Option.isNone_some, Bool.not_true, Bool.not_false, Nat.zero_add, decide_true, decide_false, if_true, if_false, Bool.false_eq_true, ↓reduceIte]
    refine zeroE_build ?_
    exact evt_ret (b := b0) (x := zeroE) h fun w h => by rw [e] at k; exact k _ _ h.drop
  have e : addS s t a b = ({ s with l := s.l ++ [newE s t a b], hd := nx s.hd (newE s t a b), last := t }, newE s t a b, 0) := by unfold addS; rw [if_neg n1, if_neg n2, if_neg h5, if_neg (by omega)]
  rw [e] at k
  simp only [h6, ↓o_nil, ↓o_field, ↓o_add, ↓o_sub, ↓o_mul, ↓o_lss, ↓o_leq, ↓o_gtr, ↓o_geq, ↓o_not, ↓o_pick, ↓o_eqInt, ↓o_neInt, ↓o_eqBool, ↓o_neBool, ↓o_eqPtr, ↓o_nePtr, ↓o_eqPtr', ↓o_eqSl, ↓o_neSl, ↓o_eqStr, ↓o_neStr, ↓o_len, ↓o_lenS, ↓o_min, ↓o_max, ↓o_extract, ↓o_convInt, ↓cd_true, ↓cd_false, ↓gate_tt, ↓gate_ff, ↓gate_tf, ↓gate_ft, ↓gate_undef, ↓o_bind, ↓stay_v, ↓pop_cons, ↓fin_nil, Option.isNone_none, Option.isNone_some, Bool.not_true, Bool.not_false, Nat.zero_add, decide_true, decide_false, if_true, if_false, Bool.false_eq_true, ↓reduceIte]
  refine Count_spec ok (by omega) h fun w h => ?_
  rw [o_add, i64_of (by omega) (by omega)]
  refine pvv_of (v := ev (newE s t a b)) (fun w => by kernel_rfl) ?_
  generalize hx : newE s t a b = x at k ⊢
  refine alloc_sl h fun b1 w h => ?_
  have h : sat E w (pts b1 (.cells (ecells zeroE).toArray 34 (0, 0)) * (pts b0 (.cells (ecells zeroE).toArray 34 (0, 0)) * chI p s (.slice va s.l.length vc) R)) := h
  refine store_all (b := b1) h (xs := ecells zeroE) (vs := ecells x) rfl rfl (ecells_one x) fun w h => ?_
  refine dr_sl h fun w h _ => ?_
  try simp only [↓o_nil, ↓o_field, ↓o_add, ↓o_sub, ↓o_mul, ↓o_lss, ↓o_leq, ↓o_gtr, ↓o_geq, ↓o_not, ↓o_pick, ↓o_eqInt, ↓o_neInt, ↓o_eqBool, ↓o_neBool, ↓o_eqPtr, ↓o_nePtr, ↓o_eqPtr', ↓o_eqSl, ↓o_neSl, ↓o_eqStr, ↓o_neStr, ↓o_len, ↓o_lenS, ↓o_min, ↓o_max, ↓o_extract, ↓o_convInt, ↓cd_true, ↓cd_false, ↓gate_tt, ↓gate_ff, ↓gate_tf, ↓gate_ft, ↓gate_undef, ↓o_bind, ↓stay_v, ↓pop_cons, ↓fin_nil, Option.isNone_none, Option.isNone_some, Bool.not_true, Bool.not_false, Nat.zero_add, decide_true, decide_false, if_true, if_false, Bool.false_eq_true, ↓reduceIte]
  refine ld_in (b := p) (v := .slice va s.l.length vc) h (ic_l ok) ?_
  refine ld_in (b := p) (v := .slice va s.l.length vc) h (ic_l ok) ?_
  rw [o_len]
  refine ld_in (b := p) (v := .slice va s.l.length vc) h (ic_l ok) ?_
  rw [o_len, o_slice_hm (by omega) (by omega) (by omega)]
  simp only [Int.toNat_natCast]
  refine ld_agg (b := b1) (xs := ecells x) h rfl ?_
  refine buildSlice_sl (e := 34) (cs := (ecells x).toArray) h (fun w => by kernel_rfl) fun b2 w h => ?_
  refine st_in (b := p) (v := .slice va s.l.length vc) h (ic_l ok) ?_
  refine st_in (b := p) (v := .slice va s.l.length vc) h (ic_l ok) ?_
  refine st_in (b := p) (v := .slice va s.l.length vc) h (ic_l ok) ?_
  have hcut : Rds (pts b2 (.cells (ecells x).toArray 34 (0, 0)) * (pts b1 (.cells (ecells x).toArray 34 (0, 0)) * (pts b0 (.cells (ecells zeroE).toArray 34 (0, 0)) * chI p s (.slice va s.l.length vc) R))) (.slice va s.l.length s.l.length) s.l.length (evs s.l) := by
    intro E w hs
    obtain ⟨a', c', e', hc', hw'⟩ := hv E w hs.drop.drop.drop
    cases e'
    exact ⟨_, _, rfl, Nat.le_refl _, hw'⟩
  refine append_fullN h (evs_length s.l) hcut (ecells x) (k' := 1) (by omega) rfl (.inr ⟨b2, 0, _, _, _, rfl, h.pts_get, fun j v hj => by simpa using hj⟩) (by omega) (by omega) fun v' w h => ?_
  refine st_agg (b := b1) (xs := ecells x) h rfl ?_
  refine st_in (b := p) (v := .slice va s.l.length vc) h (ic_l ok) ?_
  refine st_in (b := p) (v := .slice va s.l.length vc) h (ic_l ok) ?_
  refine st_in (b := p) (v := .slice va s.l.length vc) h (ic_l ok) ?_
  try simp only [↓o_nil, ↓o_field, ↓o_add, ↓o_sub, ↓o_mul, ↓o_lss, ↓o_leq, ↓o_gtr, ↓o_geq, ↓o_not, ↓o_pick, ↓o_eqInt, ↓o_neInt, ↓o_eqBool, ↓o_neBool, ↓o_eqPtr, ↓o_nePtr, ↓o_eqPtr', ↓o_eqSl, ↓o_neSl, ↓o_eqStr, ↓o_neStr, ↓o_len, ↓o_lenS, ↓o_min, ↓o_max, ↓o_extract, ↓o_convInt, ↓cd_true, ↓cd_false, ↓gate_tt, ↓gate_ff, ↓gate_tf, ↓gate_ft, ↓gate_undef, ↓o_bind, ↓stay_v, ↓pop_cons, ↓fin_nil, Option.isNone_none, Option.isNone_some, Bool.not_true, Bool.not_false, Nat.zero_add, decide_true, decide_false, if_true, if_false, Bool.false_eq_true, ↓reduceIte]
  have hone : v'.oneCell' = true := by
    obtain ⟨_, _, rfl, _⟩ := osl_shape h
    rfl
  refine store_sl (b := p) h hone (by rw [ic_length ok]; omega) fun w h => ?_
  rw [ip_l ok (l := s.l ++ [x])] at h
  have ok1 : Ok { s with l := s.l ++ [x] } (m + 1) := ⟨ok.b, ok.a, ok.h, ok.b0, ok.a0, by have := ok.le; simp; omega, by simp; omega, by simp; omega⟩
  refine dr_sl h fun w h _ => ?_
  try simp only [↓o_nil, ↓o_field, ↓o_add, ↓o_sub, ↓o_mul, ↓o_lss, ↓o_leq, ↓o_gtr, ↓o_geq, ↓o_not, ↓o_pick, ↓o_eqInt, ↓o_neInt, ↓o_eqBool, ↓o_neBool, ↓o_eqPtr, ↓o_nePtr, ↓o_eqPtr', ↓o_eqSl, ↓o_neSl, ↓o_eqStr, ↓o_neStr, ↓o_len, ↓o_lenS, ↓o_min, ↓o_max, ↓o_extract, ↓o_convInt, ↓cd_true, ↓cd_false, ↓gate_tt, ↓gate_ff, ↓gate_tf, ↓gate_ft, ↓gate_undef, ↓o_bind, ↓stay_v, ↓pop_cons, ↓fin_nil, Option.isNone_none, Option.isNone_some, Bool.not_true, Bool.not_false, Nat.zero_add, decide_true, decide_false, if_true, if_false, Bool.false_eq_true, ↓reduceIte]
  refine ld_part (b := p) h (s.hd.map bv) (by simp [ok.h]) (ic_hd ok1) ?_
  refine ld_agg (b := b1) (xs := ecells x) h rfl ?_
  refine next_spec h hd.up ok.h fun w h => ?_
  try simp only [↓o_nil, ↓o_field, ↓o_add, ↓o_sub, ↓o_mul, ↓o_lss, ↓o_leq, ↓o_gtr, ↓o_geq, ↓o_not, ↓o_pick, ↓o_eqInt, ↓o_neInt, ↓o_eqBool, ↓o_neBool, ↓o_eqPtr, ↓o_nePtr, ↓o_eqPtr', ↓o_eqSl, ↓o_neSl, ↓o_eqStr, ↓o_neStr, ↓o_len, ↓o_lenS, ↓o_min, ↓o_max, ↓o_extract, ↓o_convInt, ↓cd_true, ↓cd_false, ↓gate_tt, ↓gate_ff, ↓gate_tf, ↓gate_ft, ↓gate_undef, ↓o_bind, ↓stay_v, ↓pop_cons, ↓fin_nil, Option.isNone_none, Option.isNone_some, Bool.not_true, Bool.not_false, Nat.zero_add, decide_true, decide_false, if_true, if_false, Bool.false_eq_true, ↓reduceIte]
  refine store_part (b := p) h (icells { s with l := s.l ++ [x], hd := nx s.hd x } v') (vs := (nx s.hd x).map bv) (by simp [nx_length]) (bv_one _) (by rw [ic_length ok1]; omega) (ip_hd ok1) fun w h => ?_
  have ok2 : Ok { s with l := s.l ++ [x], hd := nx s.hd x } (m + 1) := ⟨ok.b, ok.a, nx_length _ _, ok.b0, ok.a0, ok1.le, ok1.top, ok1.few⟩
  refine store_sl (b := p) h rfl (by rw [ic_length ok2]; omega) fun w h => ?_
  rw [ip_last ok2] at h
  refine ld_agg (b := b1) (xs := ecells x) h rfl ?_
  refine evt_ret (b := b0) (x := zeroE) (y := x) h fun w h => k v' w ?_
  have h := h.drop
  have h : sat E w (osl 34 4 v' (s.l.length + 1) (evs s.l ++ ecells x) * (pts b2 (.cells (ecells x).toArray 34 (0, 0)) * (pts b1 (.cells (ecells x).toArray 34 (0, 0)) * (pers (immS (.slice va s.l.length vc) s.l.length (evs s.l)) * (pts p (.cells (icells { s with l := s.l ++ [x], hd := nx s.hd x, last := t } v').toArray 59 (0, 0)) * R))))) := h.perm (by ac_rfl)
  have h := osl_freeze h
  have e9 : evs s.l ++ ecells x = evs (s.l ++ [x]) := by rw [evs_append]; simp [evs]
  rw [e9] at h
  have h := h.perm (show _ = pts b2 (.cells (ecells x).toArray 34 (0, 0)) * (pts b1 (.cells (ecells x).toArray 34 (0, 0)) * (pers (immS (.slice va s.l.length vc) s.l.length (evs s.l)) * (pts p (.cells (icells { s with l := s.l ++ [x], hd := nx s.hd x, last := t } v').toArray 59 (0, 0)) * (pers (immS v' (s.l.length + 1) (evs (s.l ++ [x]))) * R)))) by ac_rfl)
  have h := h.drop.drop.drop
  simpa [chI] using h
end Go.Proofs.YtjeiojibnmfibaaDoor
