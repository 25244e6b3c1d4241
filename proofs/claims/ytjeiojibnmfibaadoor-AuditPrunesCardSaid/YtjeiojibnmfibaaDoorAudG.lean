/-
  Whether the events are those of the chain.
-/
import Derived.Test.YtjeiojibnmfibaaDoorAudF
set_option linter.all false
set_option maxRecDepth 10000
namespace Go.Proofs.YtjeiojibnmfibaaDoor
open Go Hold
variable {E : World0} {w : World} {H R : HP} {K : Value → World → Prop}
def lastP (s : Ch) : Nat → List Value
  | 0 => z57
  | i + 1 => pc s i
theorem lastP_length {s : Ch} {m : Nat} (ok : Ok s m) : ∀ i, (lastP s i).length = 33
  | 0 => rfl
  | i + 1 => pc_length ok i
def seen (s : Ch) (i : Nat) : Prop := ∀ j : Nat, j < i → ¬ (s.bn + (j : Int) = s.an ∧ links s.bh (s.l.take j) ≠ s.ah)
theorem seen_all {s : Ch} {m : Nat} (ok : Ok s m) (h : seen s (s.l.length + 1)) : ¬ bad s := by
  rintro ⟨h1, h2⟩
  have := ok.le
  exact h (s.an - s.bn).toNat (by omega) ⟨by omega, h2⟩
abbrev boxP (b p : Nat) : HP := pts b (.cells [Value.pointer (some ⟨p, 0, none⟩)].toArray 23 (0, 0))
abbrev boxI (b : Nat) (n : Int) : HP := pts b (.cells [Value.int .i64 n].toArray 41 (0, 0))
theorem Verify_spec {p m : Nat} {s : Ch} {v : Value} (ok : Ok s m) (hm : m ≤ 1000000000000) (hd : Dbt R) (h : sat E w (chI p s v R))
    (k : ∀ w', sat E w' (chI p s v R) → K (.int .i64 (verifyS s)) w') : Calls prog 20 #[.pointer (some ⟨p, 0, none⟩)] w (Ret K) := by
  have := ok.few; have := ok.top; have := ok.b0
  refine c20 ?_
  unfold B20
  refine box_sl h fun cb w h => ?_
  have h : sat E w (boxP cb p * chI p s v R) := h
  refine alloc_sl h fun tb w h => ?_
  have h : sat E w (boxI tb 0 * (boxP cb p * chI p s v R)) := h
  refine ld_in (b := cb) (v := .pointer (some ⟨p, 0, none⟩)) h rfl ?_
  simp only [↓o_eqPtr, Option.isNone_some, ↓cd_false]
  refine alloc_sl h fun lb w h => ?_
  have h : sat E w (pts lb (.cells z57.toArray 57 (0, 0)) * (boxI tb 0 * (boxP cb p * chI p s v R))) := h
  refine ld_in (b := cb) (v := .pointer (some ⟨p, 0, none⟩)) h rfl ?_
  refine c32 ?_
  unfold B32
  refine box_sl h fun xb w h => ?_
  have h : sat E w (boxP xb p * (pts lb (.cells z57.toArray 57 (0, 0)) * (boxI tb 0 * (boxP cb p * chI p s v R)))) := h
  refine pvv_of (v := .func (.func 47) #[] #[.pointer (some ⟨xb, 0, none⟩)]) (fun _ => rfl) ?_
  refine rng_body h Tryd.func47 (by kernel_rfl) (by kernel_rfl) fun rec D D1 w h hround => ?_
  refine Links_spec (E := E) (p := p) (v := v) (c0 := xb) ok (by omega)
    (fun i => pur (seen s i) * (pts D1 (rec .ready none) * (pts lb (.cells (lastP s i).toArray 57 (0, 0)) * (boxI tb 0 * (pts D (.deferred (some [])) * (boxP xb p * (boxP cb p * chI p s v R)))))))
    (pur (bad s) * (pts D1 (rec .done (some .ret)) * (boxI tb 15 * (pts D (.deferred (some [])) * (boxP xb p * (boxP cb p * chI p s v R))))))
    (sat_pur_star.2 ⟨fun j hj => by omega, h.perm (by ac_rfl)⟩) ?_ ?_ ?_ ?_ ?_ ?_ ?_
  · intro i w h
    exact ((sat_pur_star.1 h).2).has
  · intro i w h
    exact ((sat_pur_star.1 h).2).has
  · intro i
    exact Rds.under (H1 := pers (immS v s.l.length (evs s.l))) Rds.pers
  · intro i
    exact hd.up
  · clear h
    intro F i hi w K' h ht hf
    rw [star_left_comm] at h
    obtain ⟨hφ, h⟩ := sat_pur_star.1 h
    refine hround [.agg (pc s i).toArray] w K' rfl h.has ?_
    simp only [↓o_nil, ↓o_field, ↓o_add, ↓o_sub, ↓o_mul, ↓o_lss, ↓o_leq, ↓o_gtr, ↓o_geq, ↓o_not, ↓o_pick, ↓o_eqInt, ↓o_neInt, ↓o_eqBool, ↓o_neBool, ↓o_eqPtr, ↓o_nePtr, ↓o_eqPtr', ↓o_eqSl, ↓o_neSl, ↓o_eqStr, ↓o_neStr, ↓o_len, ↓o_lenS, ↓o_min, ↓o_max, ↓o_extract, ↓o_convInt, ↓cd_true, ↓cd_false, ↓gate_tt, ↓gate_ff, ↓gate_tf, ↓gate_ft, ↓gate_undef, ↓o_bind, ↓stay_v, ↓pop_cons, ↓fin_nil, Option.isNone_none, Option.isNone_some, Bool.not_true, Bool.not_false, Nat.zero_add, decide_true, decide_false, if_true, if_false, Bool.false_eq_true, ↓reduceIte]
    refine alloc_sl h fun pb w h => ?_
    have h : sat E w (pts pb (.cells z57.toArray 57 (0, 0)) * (F * (pts D1 (rec .ready none) * (pts lb (.cells (lastP s i).toArray 57 (0, 0)) * (boxI tb 0 * (pts D (.deferred (some [])) * (boxP xb p * (boxP cb p * chI p s v R)))))))) := h
    refine store_all (b := pb) h (xs := z57) (vs := pc s i) rfl (pc_length ok i) (pc_one s i) fun w h => ?_
    refine ⟨h.has, ?_⟩
    have h := (h.own D1).set (rec .busy none)
    refine dr_sl h fun w h _ => ?_
    try simp only [↓o_nil, ↓o_field, ↓o_add, ↓o_sub, ↓o_mul, ↓o_lss, ↓o_leq, ↓o_gtr, ↓o_geq, ↓o_not, ↓o_pick, ↓o_eqInt, ↓o_neInt, ↓o_eqBool, ↓o_neBool, ↓o_eqPtr, ↓o_nePtr, ↓o_eqPtr', ↓o_eqSl, ↓o_neSl, ↓o_eqStr, ↓o_neStr, ↓o_len, ↓o_lenS, ↓o_min, ↓o_max, ↓o_extract, ↓o_convInt, ↓cd_true, ↓cd_false, ↓gate_tt, ↓gate_ff, ↓gate_tf, ↓gate_ft, ↓gate_undef, ↓o_bind, ↓stay_v, ↓pop_cons, ↓fin_nil, Option.isNone_none, Option.isNone_some, Bool.not_true, Bool.not_false, Nat.zero_add, decide_true, decide_false, if_true, if_false, Bool.false_eq_true, ↓reduceIte]
    refine ld_in (b := pb) (v := .int .i64 (s.bn + i)) h rfl ?_
    refine ld_in (b := cb) (v := .pointer (some ⟨p, 0, none⟩)) h rfl ?_
    try simp only [↓o_nil, ↓o_field, ↓o_add, ↓o_sub, ↓o_mul, ↓o_lss, ↓o_leq, ↓o_gtr, ↓o_geq, ↓o_not, ↓o_pick, ↓o_eqInt, ↓o_neInt, ↓o_eqBool, ↓o_neBool, ↓o_eqPtr, ↓o_nePtr, ↓o_eqPtr', ↓o_eqSl, ↓o_neSl, ↓o_eqStr, ↓o_neStr, ↓o_len, ↓o_lenS, ↓o_min, ↓o_max, ↓o_extract, ↓o_convInt, ↓cd_true, ↓cd_false, ↓gate_tt, ↓gate_ff, ↓gate_tf, ↓gate_ft, ↓gate_undef, ↓o_bind, ↓stay_v, ↓pop_cons, ↓fin_nil, Option.isNone_none, Option.isNone_some, Bool.not_true, Bool.not_false, Nat.zero_add, decide_true, decide_false, if_true, if_false, Bool.false_eq_true, ↓reduceIte]
    refine ld_in (b := p) (v := .int .i64 s.an) h (ic_an ok) ?_
    rw [o_eqInt]
    have norm : ∀ w : World, sat E w (pts D1 (rec .busy none) * (pts pb (.cells (pc s i).toArray 57 (0, 0)) * (F * (pts lb (.cells (lastP s i).toArray 57 (0, 0)) * (boxI tb 0 * (pts D (.deferred (some [])) * (boxP xb p * (boxP cb p * chI p s v R)))))))) → seen s (i + 1) →
        ldv prog (Instr.loadAt 57 (.pointer (some ⟨pb, 0, none⟩))) w fun t_36 w => efu prog (Instr.storeAt 57 (.pointer (some ⟨lb, 0, none⟩)) t_36) w fun u_37 w => w.heap[D1]? = some (rec .busy none) ∧ K' (.bool true) (w.putObj D1 (rec .ready none)) := by
      intro w h hs
      refine ld_agg (b := pb) h (pc_length ok i) ?_
      refine store_all (b := lb) h (xs := lastP s i) (vs := pc s i) (lastP_length ok i) (pc_length ok i) (pc_one s i) fun w h => ?_
      refine ⟨h.has, ht _ ?_⟩
      have h := (h.own D1).set (rec .ready none)
      have h := h.lose pb
      rw [star_left_comm]
      exact sat_pur_star.2 ⟨hs, h.perm (by simp only [lastP]; ac_rfl)⟩
    by_cases hq : s.bn + (i : Int) = s.an
    · rw [decide_eq_true hq]
      simp only [↓o_nil, ↓o_field, ↓o_add, ↓o_sub, ↓o_mul, ↓o_lss, ↓o_leq, ↓o_gtr, ↓o_geq, ↓o_not, ↓o_pick, ↓o_eqInt, ↓o_neInt, ↓o_eqBool, ↓o_neBool, ↓o_eqPtr, ↓o_nePtr, ↓o_eqPtr', ↓o_eqSl, ↓o_neSl, ↓o_eqStr, ↓o_neStr, ↓o_len, ↓o_lenS, ↓o_min, ↓o_max, ↓o_extract, ↓o_convInt, ↓cd_true, ↓cd_false, ↓gate_tt, ↓gate_ff, ↓gate_tf, ↓gate_ft, ↓gate_undef, ↓o_bind, ↓stay_v, ↓pop_cons, ↓fin_nil, Option.isNone_none, Option.isNone_some, Bool.not_true, Bool.not_false, Nat.zero_add, decide_true, decide_false, if_true, if_false, Bool.false_eq_true, ↓reduceIte]
      refine ld_agg (b := pb) h (pc_length ok i) ?_
      refine ld_in (b := cb) (v := .pointer (some ⟨p, 0, none⟩)) h rfl ?_
      try simp only [↓o_nil, ↓o_field, ↓o_add, ↓o_sub, ↓o_mul, ↓o_lss, ↓o_leq, ↓o_gtr, ↓o_geq, ↓o_not, ↓o_pick, ↓o_eqInt, ↓o_neInt, ↓o_eqBool, ↓o_neBool, ↓o_eqPtr, ↓o_nePtr, ↓o_eqPtr', ↓o_eqSl, ↓o_neSl, ↓o_eqStr, ↓o_neStr, ↓o_len, ↓o_lenS, ↓o_min, ↓o_max, ↓o_extract, ↓o_convInt, ↓cd_true, ↓cd_false, ↓gate_tt, ↓gate_ff, ↓gate_tf, ↓gate_ft, ↓gate_undef, ↓o_bind, ↓stay_v, ↓pop_cons, ↓fin_nil, Option.isNone_none, Option.isNone_some, Bool.not_true, Bool.not_false, Nat.zero_add, decide_true, decide_false, if_true, if_false, Bool.false_eq_true, ↓reduceIte]
      refine ld_part (b := p) h (.int .i64 s.an :: s.ah.map bv) (by simp [ok.a]) (ic_anchor ok) ?_
      have e1 : ∀ (xo yo : Operand) (K : Value → World → Prop), pvv prog (oEq .neq 57 xo yo (.agg (pc s i).toArray) (.agg (.int .i64 s.an :: s.ah.map bv).toArray)) w K = K (.bool !(decide (s.bn + (i : Int) = s.an) && (links s.bh (s.l.take i) == s.ah))) w := fun xo yo K => neq_pc (links_length _ ok.b) ok.a
      rw [e1]
      by_cases hr : links s.bh (s.l.take i) = s.ah
      · rw [show (!(decide (s.bn + (i : Int) = s.an) && (links s.bh (s.l.take i) == s.ah))) = false by simp [hq, hr]]
        simp only [↓o_nil, ↓o_field, ↓o_add, ↓o_sub, ↓o_mul, ↓o_lss, ↓o_leq, ↓o_gtr, ↓o_geq, ↓o_not, ↓o_pick, ↓o_eqInt, ↓o_neInt, ↓o_eqBool, ↓o_neBool, ↓o_eqPtr, ↓o_nePtr, ↓o_eqPtr', ↓o_eqSl, ↓o_neSl, ↓o_eqStr, ↓o_neStr, ↓o_len, ↓o_lenS, ↓o_min, ↓o_max, ↓o_extract, ↓o_convInt, ↓cd_true, ↓cd_false, ↓gate_tt, ↓gate_ff, ↓gate_tf, ↓gate_ft, ↓gate_undef, ↓o_bind, ↓stay_v, ↓pop_cons, ↓fin_nil, Option.isNone_none, Option.isNone_some, Bool.not_true, Bool.not_false, Nat.zero_add, decide_true, decide_false, if_true, if_false, Bool.false_eq_true, ↓reduceIte]
        exact norm w (h.perm (by ac_rfl)) fun j hj => by
          rintro ⟨h1, h2⟩
          by_cases hji : j = i
          · subst hji; exact h2 hr
          · exact hφ j (by omega) ⟨h1, h2⟩
      · rw [show (!(decide (s.bn + (i : Int) = s.an) && (links s.bh (s.l.take i) == s.ah))) = true by simp [hr]]
        simp only [↓o_nil, ↓o_field, ↓o_add, ↓o_sub, ↓o_mul, ↓o_lss, ↓o_leq, ↓o_gtr, ↓o_geq, ↓o_not, ↓o_pick, ↓o_eqInt, ↓o_neInt, ↓o_eqBool, ↓o_neBool, ↓o_eqPtr, ↓o_nePtr, ↓o_eqPtr', ↓o_eqSl, ↓o_neSl, ↓o_eqStr, ↓o_neStr, ↓o_len, ↓o_lenS, ↓o_min, ↓o_max, ↓o_extract, ↓o_convInt, ↓cd_true, ↓cd_false, ↓gate_tt, ↓gate_ff, ↓gate_tf, ↓gate_ft, ↓gate_undef, ↓o_bind, ↓stay_v, ↓pop_cons, ↓fin_nil, Option.isNone_none, Option.isNone_some, Bool.not_true, Bool.not_false, Nat.zero_add, decide_true, decide_false, if_true, if_false, Bool.false_eq_true, ↓reduceIte]
        refine store_sl (b := tb) h rfl (by simp) fun w h => ?_
        have h : sat E w (boxI tb 15 * _) := h
        refine ⟨h.has, hf _ ?_⟩
        have h := (h.own D1).set (rec .done (some .ret))
        have h := (h.lose pb).lose lb
        rw [star_left_comm]
        refine sat_pur_star.2 ⟨⟨by omega, by rw [show (s.an - s.bn).toNat = i by omega]; exact hr⟩, ?_⟩
        have h : sat E _ (pts D1 (rec .done (some .ret)) * _) := h
        exact h.perm (by ac_rfl)
    · rw [decide_eq_false hq]
      simp only [↓o_nil, ↓o_field, ↓o_add, ↓o_sub, ↓o_mul, ↓o_lss, ↓o_leq, ↓o_gtr, ↓o_geq, ↓o_not, ↓o_pick, ↓o_eqInt, ↓o_neInt, ↓o_eqBool, ↓o_neBool, ↓o_eqPtr, ↓o_nePtr, ↓o_eqPtr', ↓o_eqSl, ↓o_neSl, ↓o_eqStr, ↓o_neStr, ↓o_len, ↓o_lenS, ↓o_min, ↓o_max, ↓o_extract, ↓o_convInt, ↓cd_true, ↓cd_false, ↓gate_tt, ↓gate_ff, ↓gate_tf, ↓gate_ft, ↓gate_undef, ↓o_bind, ↓stay_v, ↓pop_cons, ↓fin_nil, Option.isNone_none, Option.isNone_some, Bool.not_true, Bool.not_false, Nat.zero_add, decide_true, decide_false, if_true, if_false, Bool.false_eq_true, ↓reduceIte]
      exact norm w (h.perm (by ac_rfl)) fun j hj => by
        rintro ⟨h1, h2⟩
        by_cases hji : j = i
        · subst hji; exact hq h1
        · exact hφ j (by omega) ⟨h1, h2⟩
  · intro w h
    obtain ⟨hφ, h⟩ := sat_pur_star.1 h
    have hnb := seen_all ok hφ
    refine ⟨.ready, none, h.has, by simp, ?_⟩
    have h := (h.own D1).set (rec .exhausted none)
    simp only [jump]
    refine dr_sl h fun w h _ => ?_
    try simp only [↓o_nil, ↓o_field, ↓o_add, ↓o_sub, ↓o_mul, ↓o_lss, ↓o_leq, ↓o_gtr, ↓o_geq, ↓o_not, ↓o_pick, ↓o_eqInt, ↓o_neInt, ↓o_eqBool, ↓o_neBool, ↓o_eqPtr, ↓o_nePtr, ↓o_eqPtr', ↓o_eqSl, ↓o_neSl, ↓o_eqStr, ↓o_neStr, ↓o_len, ↓o_lenS, ↓o_min, ↓o_max, ↓o_extract, ↓o_convInt, ↓cd_true, ↓cd_false, ↓gate_tt, ↓gate_ff, ↓gate_tf, ↓gate_ft, ↓gate_undef, ↓o_bind, ↓stay_v, ↓pop_cons, ↓fin_nil, Option.isNone_none, Option.isNone_some, Bool.not_true, Bool.not_false, Nat.zero_add, decide_true, decide_false, if_true, if_false, Bool.false_eq_true, ↓reduceIte]
    refine ld_part (b := lb) h ((links s.bh (s.l.take s.l.length)).map bv) (by simp [links_length _ ok.b]) (pc_hash ok s.l.length) ?_
    refine ld_in (b := cb) (v := .pointer (some ⟨p, 0, none⟩)) h rfl ?_
    try simp only [↓o_nil, ↓o_field, ↓o_add, ↓o_sub, ↓o_mul, ↓o_lss, ↓o_leq, ↓o_gtr, ↓o_geq, ↓o_not, ↓o_pick, ↓o_eqInt, ↓o_neInt, ↓o_eqBool, ↓o_neBool, ↓o_eqPtr, ↓o_nePtr, ↓o_eqPtr', ↓o_eqSl, ↓o_neSl, ↓o_eqStr, ↓o_neStr, ↓o_len, ↓o_lenS, ↓o_min, ↓o_max, ↓o_extract, ↓o_convInt, ↓cd_true, ↓cd_false, ↓gate_tt, ↓gate_ff, ↓gate_tf, ↓gate_ft, ↓gate_undef, ↓o_bind, ↓stay_v, ↓pop_cons, ↓fin_nil, Option.isNone_none, Option.isNone_some, Bool.not_true, Bool.not_false, Nat.zero_add, decide_true, decide_false, if_true, if_false, Bool.false_eq_true, ↓reduceIte]
    refine ld_part (b := p) h (s.hd.map bv) (by simp [ok.h]) (ic_hd ok) ?_
    rw [neq36 (links_length _ ok.b) ok.h, List.take_length]
    by_cases hr : links s.bh s.l = s.hd
    · have e : verifyS s = 0 := by unfold verifyS; rw [if_neg (by rintro (h | h); exact hnb h; exact h hr)]
      rw [e] at k
      rw [show (!(links s.bh s.l == s.hd)) = false by simp [hr]]
      simp only [↓o_nil, ↓o_field, ↓o_add, ↓o_sub, ↓o_mul, ↓o_lss, ↓o_leq, ↓o_gtr, ↓o_geq, ↓o_not, ↓o_pick, ↓o_eqInt, ↓o_neInt, ↓o_eqBool, ↓o_neBool, ↓o_eqPtr, ↓o_nePtr, ↓o_eqPtr', ↓o_eqSl, ↓o_neSl, ↓o_eqStr, ↓o_neStr, ↓o_len, ↓o_lenS, ↓o_min, ↓o_max, ↓o_extract, ↓o_convInt, ↓cd_true, ↓cd_false, ↓gate_tt, ↓gate_ff, ↓gate_tf, ↓gate_ft, ↓gate_undef, ↓o_bind, ↓stay_v, ↓pop_cons, ↓fin_nil, Option.isNone_none, Option.isNone_some, Bool.not_true, Bool.not_false, Nat.zero_add, decide_true, decide_false, if_true, if_false, Bool.false_eq_true, ↓reduceIte]
      refine store_sl (b := tb) h rfl (by simp) fun w h => ?_
      refine ⟨h.has, ?_⟩
      have h := (h.own D).set (.deferred none)
      refine res_one (b := tb) h (v := .int .i64 0) rfl (k _ ?_)
      have h := (((((h.lose D).lose tb).lose D1).lose lb).lose xb).lose cb
      exact h.perm (by ac_rfl)
    · have e : verifyS s = 15 := by unfold verifyS; rw [if_pos (.inr hr)]
      rw [e] at k
      rw [show (!(links s.bh s.l == s.hd)) = true by simp [hr]]
      simp only [↓o_nil, ↓o_field, ↓o_add, ↓o_sub, ↓o_mul, ↓o_lss, ↓o_leq, ↓o_gtr, ↓o_geq, ↓o_not, ↓o_pick, ↓o_eqInt, ↓o_neInt, ↓o_eqBool, ↓o_neBool, ↓o_eqPtr, ↓o_nePtr, ↓o_eqPtr', ↓o_eqSl, ↓o_neSl, ↓o_eqStr, ↓o_neStr, ↓o_len, ↓o_lenS, ↓o_min, ↓o_max, ↓o_extract, ↓o_convInt, ↓cd_true, ↓cd_false, ↓gate_tt, ↓gate_ff, ↓gate_tf, ↓gate_ft, ↓gate_undef, ↓o_bind, ↓stay_v, ↓pop_cons, ↓fin_nil, Option.isNone_none, Option.isNone_some, Bool.not_true, Bool.not_false, Nat.zero_add, decide_true, decide_false, if_true, if_false, Bool.false_eq_true, ↓reduceIte]
      refine store_sl (b := tb) h rfl (by simp) fun w h => ?_
      refine ⟨h.has, ?_⟩
      have h := (h.own D).set (.deferred none)
      refine res_one (b := tb) h (v := .int .i64 15) rfl (k _ ?_)
      have h := (((((h.lose D).lose tb).lose D1).lose lb).lose xb).lose cb
      exact h.perm (by ac_rfl)
  · intro w h
    obtain ⟨hb, h⟩ := sat_pur_star.1 h
    have e : verifyS s = 15 := by unfold verifyS; rw [if_pos (.inl hb)]
    rw [e] at k
    refine ⟨.done, some .ret, h.has, by simp, ?_⟩
    have h := (h.own D1).set (rec .exhausted (some .ret))
    simp only [jump]
    refine ⟨h.has, ?_⟩
    have h := (h.own D).set (.deferred none)
    refine res_one (b := tb) h (v := .int .i64 15) rfl (k _ ?_)
    have h := ((((h.lose D).lose tb).lose D1).lose xb).lose cb
    exact h.perm (by ac_rfl)
end Go.Proofs.YtjeiojibnmfibaaDoor
