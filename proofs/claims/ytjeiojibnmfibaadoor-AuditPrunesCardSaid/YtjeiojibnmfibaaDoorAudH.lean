/-
  Letting events go.
-/
import Derived.Test.YtjeiojibnmfibaaDoorAudG
set_option linter.all false
set_option maxRecDepth 10000
namespace Go.Proofs.YtjeiojibnmfibaaDoor
open Go Hold
variable {E : World0} {w : World} {H R : HP} {K : Value → World → Prop}
def pruneS (s : Ch) (n : Int) : Ch × Int × Int :=
  if s.an < n ∨ n < s.bn then (s, 0, 2)
  else ({ s with bn := n, bh := links s.bh (s.l.take (n - s.bn).toNat), l := s.l.drop (n - s.bn).toNat }, n - s.bn, 0)
theorem ok_prune {s : Ch} {m : Nat} {n : Int} (ok : Ok s m) : Ok (pruneS s n).1 m := by
  unfold pruneS
  split
  · exact ok
  · have := ok.le; have := ok.top; have := ok.b0; have := ok.few
    exact ⟨links_length _ ok.b, ok.a, ok.h, by simp only; omega, ok.a0, by simp only [List.length_drop]; omega, by simp only [List.length_drop]; omega, by simp only [List.length_drop]; omega⟩
abbrev boxN (b : Nat) (n : Int) : HP := pts b (.cells [Value.int .i64 n].toArray 3 (0, 0))
theorem Prune_nil (h : sat E w H) {n : Int} (k : ∀ w', sat E w' H → K (.tuple #[.int .i64 0, .int .i64 1]) w') : Calls prog 18 #[.pointer none, .int .i64 n] w (Ret K) := by
  refine c18 ?_
  unfold B18
  refine box_sl h fun cb w h => ?_
  have h : sat E w (pts cb (.cells [Value.pointer none].toArray 23 (0, 0)) * H) := h
  refine box_sl h fun nb w h => ?_
  refine ld_in (b := cb) (v := .pointer none) h rfl ?_
  simp only [↓o_eqPtr, Option.isNone_none, ↓cd_true]
  exact k _ h.drop.drop
theorem Verify_nil (h : sat E w H) (k : ∀ w', sat E w' H → K (.int .i64 1) w') : Calls prog 20 #[.pointer none] w (Ret K) := by
  refine c20 ?_
  unfold B20
  refine box_sl h fun cb w h => ?_
  have h : sat E w (pts cb (.cells [Value.pointer none].toArray 23 (0, 0)) * H) := h
  refine alloc_sl h fun tb w h => ?_
  have h : sat E w (boxI tb 0 * (pts cb (.cells [Value.pointer none].toArray 23 (0, 0)) * H)) := h
  refine ld_in (b := cb) (v := .pointer none) h rfl ?_
  simp only [↓o_eqPtr, Option.isNone_none, ↓cd_true]
  refine store_sl (b := tb) h rfl (by simp) fun w h => ?_
  exact res_one (b := tb) h (v := .int .i64 1) rfl (k _ h.drop.drop)
theorem Anchor_nil (h : sat E w H) (k : ∀ w', sat E w' H → K (.tuple #[.int .i64 0, .agg (zeros32.map bv).toArray]) w') : Calls prog 17 #[.pointer none] w (Ret K) := by
  refine c17 ?_
  unfold B17
  refine alloc_sl h fun b w h => ?_
  have h : sat E w (pts b (.cells (zeros32.map bv).toArray 36 (0, 0)) * H) := h
  simp only [↓o_eqPtr, Option.isNone_none, ↓cd_true]
  refine zeroH_build ?_
  exact hash_ret3 (b := b) h (l := zeros32) rfl (ol := zeros32) rfl fun w h => k _ h.drop
/-- What follows the search. -/
theorem prune_end {p m cb D kk : Nat} {s : Ch} {v : Value} (ok : Ok s m) (hk : kk ≤ s.l.length)
    (h : sat E w (pts D (.deferred (some [])) * (boxP cb p * chI p s v R)))
    (k : ∀ v' w', sat E w' (chI p { s with l := s.l.drop kk } v' R) → K (.tuple #[.int .i64 kk, .int .i64 0]) w') :
    dr w fun w =>
    bindS (vN (Instr.loadAt 23 (.pointer (some ⟨cb, 0, none⟩)))) fun m_54 => ldv prog (Instr.loadAt 23 (.pointer (some ⟨cb, 0, none⟩))) w fun t_53 w =>
    bindS (vN (Instr.loadAt 23 (.pointer (some ⟨cb, 0, none⟩)))) fun m_56 => ldv prog (Instr.loadAt 23 (.pointer (some ⟨cb, 0, none⟩))) w fun t_55 w =>
    pv prog (oNil t_55) w fun t_57 w =>
    pvv prog (Instr.fieldAt 59 t_57 4) w fun t_58 w =>
    bindS (vN (Instr.loadAt 31 t_58)) fun m_60 => ldv prog (Instr.loadAt 31 t_58) w fun t_59 w =>
    pvv prog (Instr.sliceAt 31 t_59 (some (.int .i64 (kk : Int))) none none) w fun t_61 w =>
    Calls prog 30 #[t_61] w (Ret fun t_62 w => stay prog none m_60 t_59 w <| stay prog none m_56 t_55 w <| stay prog none m_54 t_53 w <|
    pv prog (oNil t_53) w fun t_63 w =>
    pvv prog (Instr.fieldAt 59 t_63 4) w fun t_64 w =>
    efu prog (Instr.storeAt 31 t_64 t_62) w fun u_65 w =>
    und [D] w fun w => K (.tuple #[.int .i64 (kk : Int), (.int .i64 0)]) w) := by
  have := ok.few
  obtain ⟨a, c, rfl, hc, hv, ha⟩ := (Rds.evs (s := s)).shape h.drop.drop
  refine dr_sl h fun w h _ => ?_
  try simp only [↓o_nil, ↓o_field, ↓o_add, ↓o_sub, ↓o_mul, ↓o_lss, ↓o_leq, ↓o_gtr, ↓o_geq, ↓o_not, ↓o_pick, ↓o_eqInt, ↓o_neInt, ↓o_eqBool, ↓o_neBool, ↓o_eqPtr, ↓o_nePtr, ↓o_eqPtr', ↓o_eqSl, ↓o_neSl, ↓o_eqStr, ↓o_neStr, ↓o_len, ↓o_lenS, ↓o_min, ↓o_max, ↓o_extract, ↓o_convInt, ↓cd_true, ↓cd_false, ↓gate_tt, ↓gate_ff, ↓gate_tf, ↓gate_ft, ↓gate_undef, ↓o_bind, ↓stay_v, ↓pop_cons, ↓fin_nil, Option.isNone_none, Option.isNone_some, Bool.not_true, Bool.not_false, Nat.zero_add, decide_true, decide_false, if_true, if_false, Bool.false_eq_true, ↓reduceIte]
  refine ld_in (b := cb) (v := .pointer (some ⟨p, 0, none⟩)) h rfl ?_
  refine ld_in (b := cb) (v := .pointer (some ⟨p, 0, none⟩)) h rfl ?_
  try simp only [↓o_nil, ↓o_field, ↓o_add, ↓o_sub, ↓o_mul, ↓o_lss, ↓o_leq, ↓o_gtr, ↓o_geq, ↓o_not, ↓o_pick, ↓o_eqInt, ↓o_neInt, ↓o_eqBool, ↓o_neBool, ↓o_eqPtr, ↓o_nePtr, ↓o_eqPtr', ↓o_eqSl, ↓o_neSl, ↓o_eqStr, ↓o_neStr, ↓o_len, ↓o_lenS, ↓o_min, ↓o_max, ↓o_extract, ↓o_convInt, ↓cd_true, ↓cd_false, ↓gate_tt, ↓gate_ff, ↓gate_tf, ↓gate_ft, ↓gate_undef, ↓o_bind, ↓stay_v, ↓pop_cons, ↓fin_nil, Option.isNone_none, Option.isNone_some, Bool.not_true, Bool.not_false, Nat.zero_add, decide_true, decide_false, if_true, if_false, Bool.false_eq_true, ↓reduceIte]
  refine ld_in (b := p) (v := .slice a s.l.length c) h (ic_l ok) ?_
  rw [o_slice_l (by omega) (by omega)]
  simp only [Int.toNat_natCast]
  have hcut : Rds (pts D (.deferred (some [])) * (boxP cb p * chI p s (.slice a s.l.length c) R)) (.slice (cutA a c kk 4) (s.l.length - kk) (c - kk)) (s.l.length - kk) (evs (s.l.drop kk)) := by
    intro E w hs
    obtain ⟨a', c', e', hc', hw'⟩ := hv E w hs.drop.drop
    cases e'
    refine ⟨_, _, rfl, by omega, ?_⟩
    rw [← evs_drop]
    exact win_cut hw' fun hcn => by rw [evs_length]; omega
  refine CloneE_spec h (by rw [evs_length, List.length_drop]) (evs_one _) hcut (by omega) fun v' w h => ?_
  try simp only [↓o_nil, ↓o_field, ↓o_add, ↓o_sub, ↓o_mul, ↓o_lss, ↓o_leq, ↓o_gtr, ↓o_geq, ↓o_not, ↓o_pick, ↓o_eqInt, ↓o_neInt, ↓o_eqBool, ↓o_neBool, ↓o_eqPtr, ↓o_nePtr, ↓o_eqPtr', ↓o_eqSl, ↓o_neSl, ↓o_eqStr, ↓o_neStr, ↓o_len, ↓o_lenS, ↓o_min, ↓o_max, ↓o_extract, ↓o_convInt, ↓cd_true, ↓cd_false, ↓gate_tt, ↓gate_ff, ↓gate_tf, ↓gate_ft, ↓gate_undef, ↓o_bind, ↓stay_v, ↓pop_cons, ↓fin_nil, Option.isNone_none, Option.isNone_some, Bool.not_true, Bool.not_false, Nat.zero_add, decide_true, decide_false, if_true, if_false, Bool.false_eq_true, ↓reduceIte]
  refine st_in (b := p) (v := .slice a s.l.length c) h (ic_l ok) ?_
  refine st_in (b := cb) (v := .pointer (some ⟨p, 0, none⟩)) h rfl ?_
  refine st_in (b := cb) (v := .pointer (some ⟨p, 0, none⟩)) h rfl ?_
  try simp only [↓o_nil, ↓o_field, ↓o_add, ↓o_sub, ↓o_mul, ↓o_lss, ↓o_leq, ↓o_gtr, ↓o_geq, ↓o_not, ↓o_pick, ↓o_eqInt, ↓o_neInt, ↓o_eqBool, ↓o_neBool, ↓o_eqPtr, ↓o_nePtr, ↓o_eqPtr', ↓o_eqSl, ↓o_neSl, ↓o_eqStr, ↓o_neStr, ↓o_len, ↓o_lenS, ↓o_min, ↓o_max, ↓o_extract, ↓o_convInt, ↓cd_true, ↓cd_false, ↓gate_tt, ↓gate_ff, ↓gate_tf, ↓gate_ft, ↓gate_undef, ↓o_bind, ↓stay_v, ↓pop_cons, ↓fin_nil, Option.isNone_none, Option.isNone_some, Bool.not_true, Bool.not_false, Nat.zero_add, decide_true, decide_false, if_true, if_false, Bool.false_eq_true, ↓reduceIte]
  have hone : v'.oneCell' = true := by
    obtain ⟨_, _, rfl, _⟩ := osl_shape h
    rfl
  refine store_sl (b := p) h hone (by rw [ic_length ok]; omega) fun w h => ?_
  rw [ip_l ok (l := s.l.drop kk)] at h
  refine ⟨h.has, ?_⟩
  have h := (h.own D).set (.deferred none)
  refine k v' _ ?_
  have h := (h.lose D).lose cb
  have h := h.perm (show _ = osl 34 4 v' (s.l.length - kk) (evs (s.l.drop kk)) * (pers (immS (.slice a s.l.length c) s.l.length (evs s.l)) * (pts p (.cells (icells { s with l := s.l.drop kk } v').toArray 59 (0, 0)) * R)) by ac_rfl)
  have h := osl_freeze h
  have h := h.perm (show _ = pers (immS (.slice a s.l.length c) s.l.length (evs s.l)) * (pts p (.cells (icells { s with l := s.l.drop kk } v').toArray 59 (0, 0)) * (pers (immS v' (s.l.length - kk) (evs (s.l.drop kk))) * R)) by ac_rfl)
  have h := h.drop
  simpa [chI] using h
theorem Prune_spec {p m : Nat} {s : Ch} {v : Value} {n : Int} (ok : Ok s m) (hm : m ≤ 1000000000000) (hd : Dbt R) (h : sat E w (chI p s v R))
    (k : ∀ v' w', sat E w' (chI p (pruneS s n).1 v' R) → K (.tuple #[.int .i64 (pruneS s n).2.1, .int .i64 (pruneS s n).2.2]) w') : Calls prog 18 #[.pointer (some ⟨p, 0, none⟩), .int .i64 n] w (Ret K) := by
  have := ok.few; have := ok.top; have := ok.b0; have := ok.le
  refine c18 ?_
  unfold B18
  refine box_sl h fun cb w h => ?_
  have h : sat E w (boxP cb p * chI p s v R) := h
  refine box_sl h fun nb w h => ?_
  have h : sat E w (boxN nb n * (boxP cb p * chI p s v R)) := h
  refine ld_in (b := cb) (v := .pointer (some ⟨p, 0, none⟩)) h rfl ?_
  simp only [↓o_eqPtr, Option.isNone_some, ↓cd_false]
  refine dr_sl h fun w h _ => ?_
  try simp only [↓o_nil, ↓o_field, ↓o_add, ↓o_sub, ↓o_mul, ↓o_lss, ↓o_leq, ↓o_gtr, ↓o_geq, ↓o_not, ↓o_pick, ↓o_eqInt, ↓o_neInt, ↓o_eqBool, ↓o_neBool, ↓o_eqPtr, ↓o_nePtr, ↓o_eqPtr', ↓o_eqSl, ↓o_neSl, ↓o_eqStr, ↓o_neStr, ↓o_len, ↓o_lenS, ↓o_min, ↓o_max, ↓o_extract, ↓o_convInt, ↓cd_true, ↓cd_false, ↓gate_tt, ↓gate_ff, ↓gate_tf, ↓gate_ft, ↓gate_undef, ↓o_bind, ↓stay_v, ↓pop_cons, ↓fin_nil, Option.isNone_none, Option.isNone_some, Bool.not_true, Bool.not_false, Nat.zero_add, decide_true, decide_false, if_true, if_false, Bool.false_eq_true, ↓reduceIte]
  refine ld_in (b := nb) (v := .int .i64 n) h rfl ?_
  refine ld_in (b := cb) (v := .pointer (some ⟨p, 0, none⟩)) h rfl ?_
  try simp only [↓o_nil, ↓o_field, ↓o_add, ↓o_sub, ↓o_mul, ↓o_lss, ↓o_leq, ↓o_gtr, ↓o_geq, ↓o_not, ↓o_pick, ↓o_eqInt, ↓o_neInt, ↓o_eqBool, ↓o_neBool, ↓o_eqPtr, ↓o_nePtr, ↓o_eqPtr', ↓o_eqSl, ↓o_neSl, ↓o_eqStr, ↓o_neStr, ↓o_len, ↓o_lenS, ↓o_min, ↓o_max, ↓o_extract, ↓o_convInt, ↓cd_true, ↓cd_false, ↓gate_tt, ↓gate_ff, ↓gate_tf, ↓gate_ft, ↓gate_undef, ↓o_bind, ↓stay_v, ↓pop_cons, ↓fin_nil, Option.isNone_none, Option.isNone_some, Bool.not_true, Bool.not_false, Nat.zero_add, decide_true, decide_false, if_true, if_false, Bool.false_eq_true, ↓reduceIte]
  refine ld_in (b := p) (v := .int .i64 s.an) h (ic_an ok) ?_
  rw [o_gtr]
  by_cases h1 : s.an < n
  · have e : pruneS s n = (s, 0, 2) := by unfold pruneS; rw [if_pos (.inl h1)]
    rw [e] at k
    simp only [h1, ↓o_nil, ↓o_field, ↓o_add, ↓o_sub, ↓o_mul, ↓o_lss, ↓o_leq, ↓o_gtr, ↓o_geq, ↓o_not, ↓o_pick, ↓o_eqInt, ↓o_neInt, ↓o_eqBool, ↓o_neBool, ↓o_eqPtr, ↓o_nePtr, ↓o_eqPtr', ↓o_eqSl, ↓o_neSl, ↓o_eqStr, ↓o_neStr, ↓o_len, ↓o_lenS, ↓o_min, ↓o_max, ↓o_extract, ↓o_convInt, ↓cd_true, ↓cd_false, ↓gate_tt, ↓gate_ff, ↓gate_tf, ↓gate_ft, ↓gate_undef, ↓o_bind, ↓stay_v, ↓pop_cons, ↓fin_nil, Option.isNone_none, Option.isNone_some, Bool.not_true, Bool.not_false, Nat.zero_add, decide_true, decide_false, if_true, if_false, Bool.false_eq_true, ↓reduceIte]
    exact k _ _ h.drop.drop
  simp only [h1, ↓o_nil, ↓o_field, ↓o_add, ↓o_sub, ↓o_mul, ↓o_lss, ↓o_leq, ↓o_gtr, ↓o_geq, ↓o_not, ↓o_pick, ↓o_eqInt, ↓o_neInt, ↓o_eqBool, ↓o_neBool, ↓o_eqPtr, ↓o_nePtr, ↓o_eqPtr', ↓o_eqSl, ↓o_neSl, ↓o_eqStr, ↓o_neStr, ↓o_len, ↓o_lenS, ↓o_min, ↓o_max, ↓o_extract, ↓o_convInt, ↓cd_true, ↓cd_false, ↓gate_tt, ↓gate_ff, ↓gate_tf, ↓gate_ft, ↓gate_undef, ↓o_bind, ↓stay_v, ↓pop_cons, ↓fin_nil, Option.isNone_none, Option.isNone_some, Bool.not_true, Bool.not_false, Nat.zero_add, decide_true, decide_false, if_true, if_false, Bool.false_eq_true, ↓reduceIte]
  refine ld_in (b := nb) (v := .int .i64 n) h rfl ?_
  try simp only [↓o_nil, ↓o_field, ↓o_add, ↓o_sub, ↓o_mul, ↓o_lss, ↓o_leq, ↓o_gtr, ↓o_geq, ↓o_not, ↓o_pick, ↓o_eqInt, ↓o_neInt, ↓o_eqBool, ↓o_neBool, ↓o_eqPtr, ↓o_nePtr, ↓o_eqPtr', ↓o_eqSl, ↓o_neSl, ↓o_eqStr, ↓o_neStr, ↓o_len, ↓o_lenS, ↓o_min, ↓o_max, ↓o_extract, ↓o_convInt, ↓cd_true, ↓cd_false, ↓gate_tt, ↓gate_ff, ↓gate_tf, ↓gate_ft, ↓gate_undef, ↓o_bind, ↓stay_v, ↓pop_cons, ↓fin_nil, Option.isNone_none, Option.isNone_some, Bool.not_true, Bool.not_false, Nat.zero_add, decide_true, decide_false, if_true, if_false, Bool.false_eq_true, ↓reduceIte]
  refine ld_in (b := cb) (v := .pointer (some ⟨p, 0, none⟩)) h rfl ?_
  try simp only [↓o_nil, ↓o_field, ↓o_add, ↓o_sub, ↓o_mul, ↓o_lss, ↓o_leq, ↓o_gtr, ↓o_geq, ↓o_not, ↓o_pick, ↓o_eqInt, ↓o_neInt, ↓o_eqBool, ↓o_neBool, ↓o_eqPtr, ↓o_nePtr, ↓o_eqPtr', ↓o_eqSl, ↓o_neSl, ↓o_eqStr, ↓o_neStr, ↓o_len, ↓o_lenS, ↓o_min, ↓o_max, ↓o_extract, ↓o_convInt, ↓cd_true, ↓cd_false, ↓gate_tt, ↓gate_ff, ↓gate_tf, ↓gate_ft, ↓gate_undef, ↓o_bind, ↓stay_v, ↓pop_cons, ↓fin_nil, Option.isNone_none, Option.isNone_some, Bool.not_true, Bool.not_false, Nat.zero_add, decide_true, decide_false, if_true, if_false, Bool.false_eq_true, ↓reduceIte]
  refine ld_in (b := p) (v := .int .i64 s.bn) h ic_bn ?_
  try simp only [↓o_nil, ↓o_field, ↓o_add, ↓o_sub, ↓o_mul, ↓o_lss, ↓o_leq, ↓o_gtr, ↓o_geq, ↓o_not, ↓o_pick, ↓o_eqInt, ↓o_neInt, ↓o_eqBool, ↓o_neBool, ↓o_eqPtr, ↓o_nePtr, ↓o_eqPtr', ↓o_eqSl, ↓o_neSl, ↓o_eqStr, ↓o_neStr, ↓o_len, ↓o_lenS, ↓o_min, ↓o_max, ↓o_extract, ↓o_convInt, ↓cd_true, ↓cd_false, ↓gate_tt, ↓gate_ff, ↓gate_tf, ↓gate_ft, ↓gate_undef, ↓o_bind, ↓stay_v, ↓pop_cons, ↓fin_nil, Option.isNone_none, Option.isNone_some, Bool.not_true, Bool.not_false, Nat.zero_add, decide_true, decide_false, if_true, if_false, Bool.false_eq_true, ↓reduceIte]
  by_cases h2 : n < s.bn
  · have e : pruneS s n = (s, 0, 2) := by unfold pruneS; rw [if_pos (.inr h2)]
    rw [e] at k
    simp only [h2, ↓o_nil, ↓o_field, ↓o_add, ↓o_sub, ↓o_mul, ↓o_lss, ↓o_leq, ↓o_gtr, ↓o_geq, ↓o_not, ↓o_pick, ↓o_eqInt, ↓o_neInt, ↓o_eqBool, ↓o_neBool, ↓o_eqPtr, ↓o_nePtr, ↓o_eqPtr', ↓o_eqSl, ↓o_neSl, ↓o_eqStr, ↓o_neStr, ↓o_len, ↓o_lenS, ↓o_min, ↓o_max, ↓o_extract, ↓o_convInt, ↓cd_true, ↓cd_false, ↓gate_tt, ↓gate_ff, ↓gate_tf, ↓gate_ft, ↓gate_undef, ↓o_bind, ↓stay_v, ↓pop_cons, ↓fin_nil, Option.isNone_none, Option.isNone_some, Bool.not_true, Bool.not_false, Nat.zero_add, decide_true, decide_false, if_true, if_false, Bool.false_eq_true, ↓reduceIte]
    exact k _ _ h.drop.drop
  simp only [h2, ↓o_nil, ↓o_field, ↓o_add, ↓o_sub, ↓o_mul, ↓o_lss, ↓o_leq, ↓o_gtr, ↓o_geq, ↓o_not, ↓o_pick, ↓o_eqInt, ↓o_neInt, ↓o_eqBool, ↓o_neBool, ↓o_eqPtr, ↓o_nePtr, ↓o_eqPtr', ↓o_eqSl, ↓o_neSl, ↓o_eqStr, ↓o_neStr, ↓o_len, ↓o_lenS, ↓o_min, ↓o_max, ↓o_extract, ↓o_convInt, ↓cd_true, ↓cd_false, ↓gate_tt, ↓gate_ff, ↓gate_tf, ↓gate_ft, ↓gate_undef, ↓o_bind, ↓stay_v, ↓pop_cons, ↓fin_nil, Option.isNone_none, Option.isNone_some, Bool.not_true, Bool.not_false, Nat.zero_add, decide_true, decide_false, if_true, if_false, Bool.false_eq_true, ↓reduceIte]
  obtain ⟨kk, hkk⟩ : ∃ kk : Nat, n = s.bn + kk := ⟨(n - s.bn).toNat, by omega⟩
  have e : pruneS s n = ({ s with bn := n, bh := links s.bh (s.l.take kk), l := s.l.drop kk }, (kk : Int), 0) := by
    unfold pruneS; rw [if_neg (by omega), show (n - s.bn).toNat = kk by omega, show n - s.bn = (kk : Int) by omega]
  rw [e] at k
  refine dr_sl h fun w h _ => ?_
  try simp only [↓o_nil, ↓o_field, ↓o_add, ↓o_sub, ↓o_mul, ↓o_lss, ↓o_leq, ↓o_gtr, ↓o_geq, ↓o_not, ↓o_pick, ↓o_eqInt, ↓o_neInt, ↓o_eqBool, ↓o_neBool, ↓o_eqPtr, ↓o_nePtr, ↓o_eqPtr', ↓o_eqSl, ↓o_neSl, ↓o_eqStr, ↓o_neStr, ↓o_len, ↓o_lenS, ↓o_min, ↓o_max, ↓o_extract, ↓o_convInt, ↓cd_true, ↓cd_false, ↓gate_tt, ↓gate_ff, ↓gate_tf, ↓gate_ft, ↓gate_undef, ↓o_bind, ↓stay_v, ↓pop_cons, ↓fin_nil, Option.isNone_none, Option.isNone_some, Bool.not_true, Bool.not_false, Nat.zero_add, decide_true, decide_false, if_true, if_false, Bool.false_eq_true, ↓reduceIte]
  refine ld_in (b := nb) (v := .int .i64 n) h rfl ?_
  refine ld_in (b := cb) (v := .pointer (some ⟨p, 0, none⟩)) h rfl ?_
  try simp only [↓o_nil, ↓o_field, ↓o_add, ↓o_sub, ↓o_mul, ↓o_lss, ↓o_leq, ↓o_gtr, ↓o_geq, ↓o_not, ↓o_pick, ↓o_eqInt, ↓o_neInt, ↓o_eqBool, ↓o_neBool, ↓o_eqPtr, ↓o_nePtr, ↓o_eqPtr', ↓o_eqSl, ↓o_neSl, ↓o_eqStr, ↓o_neStr, ↓o_len, ↓o_lenS, ↓o_min, ↓o_max, ↓o_extract, ↓o_convInt, ↓cd_true, ↓cd_false, ↓gate_tt, ↓gate_ff, ↓gate_tf, ↓gate_ft, ↓gate_undef, ↓o_bind, ↓stay_v, ↓pop_cons, ↓fin_nil, Option.isNone_none, Option.isNone_some, Bool.not_true, Bool.not_false, Nat.zero_add, decide_true, decide_false, if_true, if_false, Bool.false_eq_true, ↓reduceIte]
  refine ld_in (b := p) (v := .int .i64 s.bn) h ic_bn ?_
  rw [o_sub, i64_of (by omega) (by omega), show n - s.bn = (kk : Int) by omega]
  refine ld_in (b := cb) (v := .pointer (some ⟨p, 0, none⟩)) h rfl ?_
  refine c32 ?_
  unfold B32
  refine box_sl h fun xb w h => ?_
  have h : sat E w (boxP xb p * (boxN nb n * (boxP cb p * chI p s v R))) := h
  refine pvv_of (v := .func (.func 47) #[] #[.pointer (some ⟨xb, 0, none⟩)]) (fun _ => rfl) ?_
  refine rng_body h Tryd.func47 (by kernel_rfl) (by kernel_rfl) fun rec D D1 w h hround => ?_
  refine Links_spec (E := E) (p := p) (v := v) (c0 := xb) ok (by omega)
    (fun i => pur (i ≤ kk) * (pts D1 (rec .ready none) * (boxN nb n * (pts D (.deferred (some [])) * (boxP xb p * (boxP cb p * chI p s v R))))))
    (pts D1 (rec .done (some (.exit 1))) * (boxN nb n * (pts D (.deferred (some [])) * (boxP xb p * (boxP cb p * chI p { s with bn := n, bh := links s.bh (s.l.take kk) } v R)))))
    (sat_pur_star.2 ⟨by omega, h.perm (by ac_rfl)⟩) ?_ ?_ ?_ ?_ ?_ ?_ ?_
  · intro i w h
    exact ((sat_pur_star.1 h).2).has
  · intro i w h
    exact ((sat_pur_star.1 h).2).has
  · intro i
    exact Rds.under (H1 := pers (immS v s.l.length (evs s.l))) Rds.pers
  · intro i
    exact hd.up
  · clear h
    intro F i hi w K' h ht hf
    rw [star_left_comm] at h
    obtain ⟨hφ, h⟩ := sat_pur_star.1 h
    refine hround [.agg (pc s i).toArray] w K' rfl h.has ?_
    simp only [↓o_nil, ↓o_field, ↓o_add, ↓o_sub, ↓o_mul, ↓o_lss, ↓o_leq, ↓o_gtr, ↓o_geq, ↓o_not, ↓o_pick, ↓o_eqInt, ↓o_neInt, ↓o_eqBool, ↓o_neBool, ↓o_eqPtr, ↓o_nePtr, ↓o_eqPtr', ↓o_eqSl, ↓o_neSl, ↓o_eqStr, ↓o_neStr, ↓o_len, ↓o_lenS, ↓o_min, ↓o_max, ↓o_extract, ↓o_convInt, ↓cd_true, ↓cd_false, ↓gate_tt, ↓gate_ff, ↓gate_tf, ↓gate_ft, ↓gate_undef, ↓o_bind, ↓stay_v, ↓pop_cons, ↓fin_nil, Option.isNone_none, Option.isNone_some, Bool.not_true, Bool.not_false, Nat.zero_add, decide_true, decide_false, if_true, if_false, Bool.false_eq_true, ↓reduceIte]
    refine alloc_sl h fun pb w h => ?_
    have h : sat E w (pts pb (.cells z57.toArray 57 (0, 0)) * (F * (pts D1 (rec .ready none) * (boxN nb n * (pts D (.deferred (some [])) * (boxP xb p * (boxP cb p * chI p s v R))))))) := h
    refine store_all (b := pb) h (xs := z57) (vs := pc s i) rfl (pc_length ok i) (pc_one s i) fun w h => ?_
    refine ⟨h.has, ?_⟩
    have h := (h.own D1).set (rec .busy none)
    try simp only [↓o_nil, ↓o_field, ↓o_add, ↓o_sub, ↓o_mul, ↓o_lss, ↓o_leq, ↓o_gtr, ↓o_geq, ↓o_not, ↓o_pick, ↓o_eqInt, ↓o_neInt, ↓o_eqBool, ↓o_neBool, ↓o_eqPtr, ↓o_nePtr, ↓o_eqPtr', ↓o_eqSl, ↓o_neSl, ↓o_eqStr, ↓o_neStr, ↓o_len, ↓o_lenS, ↓o_min, ↓o_max, ↓o_extract, ↓o_convInt, ↓cd_true, ↓cd_false, ↓gate_tt, ↓gate_ff, ↓gate_tf, ↓gate_ft, ↓gate_undef, ↓o_bind, ↓stay_v, ↓pop_cons, ↓fin_nil, Option.isNone_none, Option.isNone_some, Bool.not_true, Bool.not_false, Nat.zero_add, decide_true, decide_false, if_true, if_false, Bool.false_eq_true, ↓reduceIte]
    refine ld_in (b := pb) (v := .int .i64 (s.bn + i)) h rfl ?_
    refine ld_in (b := nb) (v := .int .i64 n) h rfl ?_
    rw [o_eqInt]
    by_cases hq : s.bn + (i : Int) = n
    · have hik : i = kk := by omega
      rw [decide_eq_true hq]
      simp only [↓o_nil, ↓o_field, ↓o_add, ↓o_sub, ↓o_mul, ↓o_lss, ↓o_leq, ↓o_gtr, ↓o_geq, ↓o_not, ↓o_pick, ↓o_eqInt, ↓o_neInt, ↓o_eqBool, ↓o_neBool, ↓o_eqPtr, ↓o_nePtr, ↓o_eqPtr', ↓o_eqSl, ↓o_neSl, ↓o_eqStr, ↓o_neStr, ↓o_len, ↓o_lenS, ↓o_min, ↓o_max, ↓o_extract, ↓o_convInt, ↓cd_true, ↓cd_false, ↓gate_tt, ↓gate_ff, ↓gate_tf, ↓gate_ft, ↓gate_undef, ↓o_bind, ↓stay_v, ↓pop_cons, ↓fin_nil, Option.isNone_none, Option.isNone_some, Bool.not_true, Bool.not_false, Nat.zero_add, decide_true, decide_false, if_true, if_false, Bool.false_eq_true, ↓reduceIte]
      refine ld_in (b := cb) (v := .pointer (some ⟨p, 0, none⟩)) h rfl ?_
      refine ld_agg (b := pb) h (pc_length ok i) ?_
      try simp only [↓o_nil, ↓o_field, ↓o_add, ↓o_sub, ↓o_mul, ↓o_lss, ↓o_leq, ↓o_gtr, ↓o_geq, ↓o_not, ↓o_pick, ↓o_eqInt, ↓o_neInt, ↓o_eqBool, ↓o_neBool, ↓o_eqPtr, ↓o_nePtr, ↓o_eqPtr', ↓o_eqSl, ↓o_neSl, ↓o_eqStr, ↓o_neStr, ↓o_len, ↓o_lenS, ↓o_min, ↓o_max, ↓o_extract, ↓o_convInt, ↓cd_true, ↓cd_false, ↓gate_tt, ↓gate_ff, ↓gate_tf, ↓gate_ft, ↓gate_undef, ↓o_bind, ↓stay_v, ↓pop_cons, ↓fin_nil, Option.isNone_none, Option.isNone_some, Bool.not_true, Bool.not_false, Nat.zero_add, decide_true, decide_false, if_true, if_false, Bool.false_eq_true, ↓reduceIte]
      have e3 : pc s i = .int .i64 n :: (links s.bh (s.l.take kk)).map bv := by unfold pc; rw [hq, hik]
      rw [e3]
      refine store_part (b := p) h (icells { s with bn := n, bh := links s.bh (s.l.take kk) } v) (by simp [links_length _ ok.b]) (by rw [← e3]; exact pc_one s i) (by rw [ic_length ok]; omega) (ip_base ok) fun w h => ?_
      refine ⟨h.has, hf _ ?_⟩
      have h := (h.own D1).set (rec .done (some (.exit 1)))
      have h := h.lose pb
      show sat E _ (F * (pts D1 (rec .done (some (.exit 1))) * (boxN nb n * (pts D (.deferred (some [])) * (boxP xb p * (boxP cb p * (pts p (.cells (icells { s with bn := n, bh := links s.bh (s.l.take kk) } v).toArray 59 (0, 0)) * (pers (immS v s.l.length (evs s.l)) * R))))))))
      exact h.perm (by ac_rfl)
    · rw [decide_eq_false hq]
      simp only [↓o_nil, ↓o_field, ↓o_add, ↓o_sub, ↓o_mul, ↓o_lss, ↓o_leq, ↓o_gtr, ↓o_geq, ↓o_not, ↓o_pick, ↓o_eqInt, ↓o_neInt, ↓o_eqBool, ↓o_neBool, ↓o_eqPtr, ↓o_nePtr, ↓o_eqPtr', ↓o_eqSl, ↓o_neSl, ↓o_eqStr, ↓o_neStr, ↓o_len, ↓o_lenS, ↓o_min, ↓o_max, ↓o_extract, ↓o_convInt, ↓cd_true, ↓cd_false, ↓gate_tt, ↓gate_ff, ↓gate_tf, ↓gate_ft, ↓gate_undef, ↓o_bind, ↓stay_v, ↓pop_cons, ↓fin_nil, Option.isNone_none, Option.isNone_some, Bool.not_true, Bool.not_false, Nat.zero_add, decide_true, decide_false, if_true, if_false, Bool.false_eq_true, ↓reduceIte]
      refine ⟨h.has, ht _ ?_⟩
      have h := (h.own D1).set (rec .ready none)
      have h := h.lose pb
      rw [star_left_comm]
      exact sat_pur_star.2 ⟨by omega, h.perm (by ac_rfl)⟩
  · intro w h
    obtain ⟨hφ, h⟩ := sat_pur_star.1 h
    omega
  · intro w h
    refine ⟨.done, some (.exit 1), h.has, by simp, ?_⟩
    have h := (h.own D1).set (rec .exhausted (some (.exit 1)))
    simp only [jump, jump.jumpX]
    have h := ((h.lose D1).lose nb).lose xb
    have ok2 : Ok { s with bn := n, bh := links s.bh (s.l.take kk) } (m + s.l.length) := ⟨links_length _ ok.b, ok.a, ok.h, by simp only; omega, ok.a0, by simp only; omega, by simp only; omega, ok.few⟩
    exact prune_end (kk := kk) ok2 (by simp only; omega) h fun v' w h => k v' w h
end Go.Proofs.YtjeiojibnmfibaaDoor
