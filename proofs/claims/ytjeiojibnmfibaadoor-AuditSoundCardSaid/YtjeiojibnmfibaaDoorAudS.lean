/-
  Letting events go.
-/
import Derived.Test.YtjeiojibnmfibaaDoorAudG
set_option linter.all false
set_option maxRecDepth 10000
namespace Go.Proofs.YtjeiojibnmfibaaDoor
open Go Hold
variable {E : World0} {w : World} {H R : HP} {K : Value → World → Prop}
def pruneS (s : Ch) (n : Int) : Ch × Int × Int :=
  if s.an < n ∨ n < s.bn then (s, 0, 2)
  else ({ s with bn := n, bh := links s.bh (s.l.take (n - s.bn).toNat), l := s.l.drop (n - s.bn).toNat }, n - s.bn, 0)
theorem ok_prune {s : Ch} {m : Nat} {n : Int} (ok : Ok s m) : Ok (pruneS s n).1 m := by
  unfold pruneS
  split
  · exact ok
  · have := ok.le; have := ok.top; have := ok.b0; have := ok.few
    exact ⟨links_length _ ok.b, ok.a, ok.h, by simp only; omega, ok.a0, by simp only [List.length_drop]; omega, by simp only [List.length_drop]; omega, by simp only [List.length_drop]; omega⟩
abbrev boxN (b : Nat) (n : Int) : HP := pts b (.cells [Value.int .i64 n].toArray 3 (0, 0))
theorem Prune_nil (h : sat E w H) {n : Int} (k : ∀ w', sat E w' H → K (.tuple #[.int .i64 0, .int .i64 1]) w') : Calls prog 18 #[.pointer none, .int .i64 n] w (Ret K) := by
  refine c18 ?_
  unfold B18
  refine box_sl h fun cb w h => ?_
  have h : sat E w (pts cb (.cells [Value.pointer none].toArray 23 (0, 0)) * H) := h
  refine box_sl h fun nb w h => ?_
  refine ld_in (b := cb) (v := .pointer none) h rfl ?_
  simp only [↓o_eqPtr, Option.isNone_none, ↓cd_true]
  exact k _ h.drop.drop
theorem Verify_nil (h : sat E w H) (k : ∀ w', sat E w' H → K (.int .i64 1) w') : Calls prog 20 #[.pointer none] w (Ret K) := by
  refine c20 ?_
  unfold B20
  refine box_sl h fun cb w h => ?_
  have h : sat E w (pts cb (.cells [Value.pointer none].toArray 23 (0, 0)) * H) := h
  refine alloc_sl h fun tb w h => ?_
  have h : sat E w (boxI tb 0 * (pts cb (.cells [Value.pointer none].toArray 23 (0, 0)) * H)) := h
  refine ld_in (b := cb) (v := .pointer none) h rfl ?_
  simp only [↓o_eqPtr, Option.isNone_none, ↓cd_true]
  refine store_sl (b := tb) h rfl (by simp) fun w h => ?_
  exact res_one (b := tb) h (v := .int .i64 1) rfl (k _ h.drop.drop)
theorem Anchor_nil (h : sat E w H) (k : ∀ w', sat E w' H → K (.tuple #[.int .i64 0, .agg (zeros32.map bv).toArray]) w') : Calls prog 17 #[.pointer none] w (Ret K) := by
  refine c17 ?_
  unfold B17
  refine alloc_sl h fun b w h => ?_
  have h : sat E w (pts b (.cells (zeros32.map bv).toArray 36 (0, 0)) * H) := h
  simp only [↓o_eqPtr, Option.isNone_none, ↓cd_true]
  refine zeroH_build ?_
  exact hash_ret3 (b := b) h (l := zeros32) rfl (ol := zeros32) rfl fun w h => k _ h.drop
/-- What follows the search. -/
theorem prune_end {p m cb D kk : Nat} {s : Ch} {v : Value} (ok : Ok s m) (hk : kk ≤ s.l.length)
    (h : sat E w (pts D (.deferred (some [])) * (boxP cb p * chI p s v R)))
    (k : ∀ v' w', sat E w' (chI p { s with l := s.l.drop kk } v' R) → K (.tuple #[.int .i64 kk, .int .i64 0]) w') :
    dr w fun w =>
    bindS (vN (Instr.loadAt 23 (.pointer (some ⟨cb, 0, none⟩)))) fun m_54 => ldv prog (Instr.loadAt 23 (.pointer (some ⟨cb, 0, none⟩))) w fun t_53 w =>
    bindS (vN (Instr.loadAt 23 (.pointer (some ⟨cb, 0, none⟩)))) fun m_56 => ldv prog (Instr.loadAt 23 (.pointer (some ⟨cb, 0, none⟩))) w fun t_55 w =>
    pv prog (oNil t_55) w fun t_57 w =>
    pvv prog (Instr.fieldAt 59 t_57 4) w fun t_58 w =>
    bindS (vN (Instr.loadAt 31 t_58)) fun m_60 => ldv prog (Instr.loadAt 31 t_58) w fun t_59 w =>
    pvv prog (Instr.sliceAt 31 t_59 (some (.int .i64 (kk : Int))) none none) w fun t_61 w =>
    Calls prog 30 #[t_61] w (Ret fun t_62 w => stay prog none m_60 t_59 w <| stay prog none m_56 t_55 w <| stay prog none m_54 t_53 w <|
    pv prog (oNil t_53) w fun t_63 w =>
    pvv prog (Instr.fieldAt 59 t_63 4) w fun t_64 w =>
    efu prog (Instr.storeAt 31 t_64 t_62) w fun u_65 w =>
    und [D] w fun w => K (.tuple #[.int .i64 (kk : Int), (.int .i64 0)]) w) := by
  have := ok.few
  obtain ⟨a, c, rfl, hc, hv, ha⟩ := (Rds.evs (s := s)).shape h.drop.drop
  refine dr_sl h fun w h _ => ?_
  try simp only [↓o_nil, ↓o_field, ↓o_add, ↓o_sub, ↓o_mul, ↓o_lss, ↓o_leq, ↓o_gtr, ↓o_geq, ↓o_not, ↓o_pick, ↓o_eqInt, ↓o_neInt, ↓o_eqBool, ↓o_neBool, ↓o_eqPtr, ↓o_nePtr, ↓o_eqPtr', ↓o_eqSl, ↓o_neSl, ↓o_eqStr, ↓o_neStr, ↓o_len, ↓o_lenS, ↓o_min, ↓o_max, ↓o_extract, ↓o_convInt, ↓cd_true, ↓cd_false, ↓gate_tt, ↓gate_ff, ↓gate_tf, ↓gate_ft, ↓gate_undef, ↓o_bind, ↓stay_v, ↓pop_cons, ↓fin_nil, Option.isNone_none, Option.isNone_some, Bool.not_true, Bool.not_false, Nat.zero_add, decide_true, decide_false, if_true, if_false, Bool.false_eq_true, ↓reduceIte]
  refine ld_in (b := cb) (v := .pointer (some ⟨p, 0, none⟩)) h rfl ?_
  refine ld_in (b := cb) (v := .pointer (some ⟨p, 0, none⟩)) h rfl ?_
  try simp only [↓o_nil, ↓o_field, ↓o_add, ↓o_sub, ↓o_mul, ↓o_lss, ↓o_leq, ↓o_gtr, ↓o_geq, ↓o_not, ↓o_pick, ↓o_eqInt, ↓o_neInt, ↓o_eqBool, ↓o_neBool, ↓o_eqPtr, ↓o_nePtr, ↓o_eqPtr', ↓o_eqSl, ↓o_neSl, ↓o_eqStr, ↓o_neStr, ↓o_len, ↓o_lenS, ↓o_min, ↓o_max, ↓o_extract, ↓o_convInt, ↓cd_true, ↓cd_false, ↓gate_tt, ↓gate_ff, ↓gate_tf, ↓gate_ft, ↓gate_undef, ↓o_bind, ↓stay_v, ↓pop_cons, ↓fin_nil, Option.isNone_none, Option.isNone_some, Bool.not_true, Bool.not_false, Nat.zero_add, decide_true, decide_false, if_true, if_false, Bool.false_eq_true, ↓reduceIte]
  refine ld_in (b := p) (v := .slice a s.l.length c) h (ic_l ok) ?_
  rw [o_slice_l (by omega) (by omega)]
  simp only [Int.toNat_natCast]
  have hcut : Rds (pts D (.deferred (some [])) * (boxP cb p * chI p s (.slice a s.l.length c) R)) (.slice (cutA a c kk 4) (s.l.length - kk) (c - kk)) (s.l.length - kk) (evs (s.l.drop kk)) := by
    intro E w hs
    obtain ⟨a', c', e', hc', hw'⟩ := hv E w hs.drop.drop
    cases e'
    refine ⟨_, _, rfl, by omega, ?_⟩
    rw [← evs_drop]
    exact win_cut hw' fun hcn => by rw [evs_length]; omega
  refine CloneE_spec h (by rw [evs_length, List.length_drop]) (evs_one _) hcut (by omega) fun v' w h => ?_
  try simp only [↓o_nil, ↓o_field, ↓o_add, ↓o_sub, ↓o_mul, ↓o_lss, ↓o_leq, ↓o_gtr, ↓o_geq, ↓o_not, ↓o_pick, ↓o_eqInt, ↓o_neInt, ↓o_eqBool, ↓o_neBool, ↓o_eqPtr, ↓o_nePtr, ↓o_eqPtr', ↓o_eqSl, ↓o_neSl, ↓o_eqStr, ↓o_neStr, ↓o_len, ↓o_lenS, ↓o_min, ↓o_max, ↓o_extract, ↓o_convInt, ↓cd_true, ↓cd_false, ↓gate_tt, ↓gate_ff, ↓gate_tf, ↓gate_ft, ↓gate_undef, ↓o_bind, ↓stay_v, ↓pop_cons, ↓fin_nil, Option.isNone_none, Option.isNone_some, Bool.not_true, Bool.not_false, Nat.zero_add, decide_true, decide_false, if_true, if_false, Bool.false_eq_true, ↓reduceIte]
  refine st_in (b := p) (v := .slice a s.l.length c) h (ic_l ok) ?_
  refine st_in (b := cb) (v := .pointer (some ⟨p, 0, none⟩)) h rfl ?_
  refine st_in (b := cb) (v := .pointer (some ⟨p, 0, none⟩)) h rfl ?_
  try simp only [↓o_nil, ↓o_field, ↓o_add, ↓o_sub, ↓o_mul, ↓o_lss, ↓o_leq, ↓o_gtr, ↓o_geq, ↓o_not, ↓o_pick, ↓o_eqInt, ↓o_neInt, ↓o_eqBool, ↓o_neBool, ↓o_eqPtr, ↓o_nePtr, ↓o_eqPtr', ↓o_eqSl, ↓o_neSl, ↓o_eqStr, ↓o_neStr, ↓o_len, ↓o_lenS, ↓o_min, ↓o_max, ↓o_extract, ↓o_convInt, ↓cd_true, ↓cd_false, ↓gate_tt, ↓gate_ff, ↓gate_tf, ↓gate_ft, ↓gate_undef, ↓o_bind, ↓stay_v, ↓pop_cons, ↓fin_nil, Option.isNone_none, Option.isNone_some, Bool.not_true, Bool.not_false, Nat.zero_add, decide_true, decide_false, if_true, if_false, Bool.false_eq_true, ↓reduceIte]
  have hone : v'.oneCell' = true := by
    obtain ⟨_, _, rfl, _⟩ := osl_shape h
    rfl
  refine store_sl (b := p) h hone (by rw [ic_length ok]; omega) fun w h => ?_
  rw [ip_l ok (l := s.l.drop kk)] at h
  refine ⟨h.has, ?_⟩
  have h := (h.own D).set (.deferred none)
  refine k v' _ ?_
  have h := (h.lose D).lose cb
  have h := h.perm (show _ = osl 34 4 v' (s.l.length - kk) (evs (s.l.drop kk)) * (pers (immS (.slice a s.l.length c) s.l.length (evs s.l)) * (pts p (.cells (icells { s with l := s.l.drop kk } v').toArray 59 (0, 0)) * R)) by ac_rfl)
  have h := osl_freeze h
  have h := h.perm (show _ = pers (immS (.slice a s.l.length c) s.l.length (evs s.l)) * (pts p (.cells (icells { s with l := s.l.drop kk } v').toArray 59 (0, 0)) * (pers (immS v' (s.l.length - kk) (evs (s.l.drop kk))) * R)) by ac_rfl)
  have h := h.drop
  simpa [chI] using h
theorem Prune_spec {p m : Nat} {s : Ch} {v : Value} {n : Int} (ok : Ok s m) (hm : m ≤ 1000000000000) (hd : Dbt R) (h : sat E w (chI p s v R))
    (k : ∀ v' w', sat E w' (chI p (pruneS s n).1 v' R) → K (.tuple #[.int .i64 (pruneS s n).2.1, .int .i64 (pruneS s n).2.2]) w') : Calls prog 18 #[.pointer (some ⟨p, 0, none⟩), .int .i64 n] w (Ret K) := by
  have := ok.few; have := ok.top; have := ok.b0; have := ok.le
  refine c18 ?_
  unfold B18
  refine box_sl h fun cb w h => ?_
  have h : sat E w (boxP cb p * chI p s v R) := h
  refine box_sl h fun nb w h => ?_
  have h : sat E w (boxN nb n * (boxP cb p * chI p s v R)) := h
  refine ld_in (b := cb) (v := .pointer (some ⟨p, 0, none⟩)) h rfl ?_
  simp only [↓o_eqPtr, Option.isNone_some, ↓cd_false]
  refine dr_sl h fun w h _ => ?_
  try simp only [↓o_nil, ↓o_field, ↓o_add, ↓o_sub, ↓o_mul, ↓o_lss, ↓o_leq, ↓o_gtr, ↓o_geq, ↓o_not, ↓o_pick, ↓o_eqInt, ↓o_neInt, ↓o_eqBool, ↓o_neBool, ↓o_eqPtr, ↓o_nePtr, ↓o_eqPtr', ↓o_eqSl, ↓o_neSl, ↓o_eqStr, ↓o_neStr, ↓o_len, ↓o_lenS, ↓o_min, ↓o_max, ↓o_extract, ↓o_convInt, ↓cd_true, ↓cd_false, ↓gate_tt, ↓gate_ff, ↓gate_tf, ↓gate_ft, ↓gate_undef, ↓o_bind, ↓stay_v, ↓pop_cons, ↓fin_nil, Option.isNone_none, Option.isNone_some, Bool.not_true, Bool.not_false, Nat.zero_add, decide_true, decide_false, if_true, if_false, Bool.false_eq_true, ↓reduceIte]
  refine ld_in (b := nb) (v := .int .i64 n) h rfl ?_
  refine ld_in (b := cb) (v := .pointer (some ⟨p, 0, none⟩)) h rfl ?_
  try simp only [↓o_nil, ↓o_field, ↓o_add, ↓o_sub, ↓o_mul, ↓o_lss, ↓o_leq, ↓o_gtr, ↓o_geq, ↓o_not, ↓o_pick, ↓o_eqInt, ↓o_neInt, ↓o_eqBool, ↓o_neBool, ↓o_eqPtr, ↓o_nePtr, ↓o_eqPtr', ↓o_eqSl, ↓o_neSl, ↓o_eqStr, ↓o_neStr, ↓o_len, ↓o_lenS, ↓o_min, ↓o_max, ↓o_extract, ↓o_convInt, ↓cd_true, ↓cd_false, ↓gate_tt, ↓gate_ff, ↓gate_tf, ↓gate_ft, ↓gate_undef, ↓o_bind, ↓stay_v, ↓pop_cons, ↓fin_nil, Option.isNone_none, Option.isNone_some, Bool.not_true, Bool.not_false, Nat.zero_add, decide_true, decide_false, if_true, if_false, Bool.false_eq_true, ↓reduceIte]
  refine ld_in (b := p) (v := .int .i64 s.an) h (ic_an ok) ?_
  rw [o_gtr]
  by_cases h1 : s.an < n
  · have e : pruneS s n = (s, 0, 2) := by unfold pruneS; rw [if_pos (.inl h1)]
    rw [e] at k
    simp only [h1, ↓o_nil, ↓o_field, ↓o_add, ↓o_sub, ↓o_mul, ↓o_lss, ↓o_leq, ↓o_gtr, ↓o_geq, ↓o_not, ↓o_pick, ↓o_eqInt, ↓o_neInt, ↓o_eqBool, ↓o_neBool, ↓o_eqPtr, ↓o_nePtr, ↓o_eqPtr', ↓o_eqSl, ↓o_neSl, ↓o_eqStr, ↓o_neStr, ↓o_len, ↓o_lenS, ↓o_min, ↓o_max, ↓o_extract, ↓o_convInt, ↓cd_true, ↓cd_false, ↓gate_tt, ↓gate_ff, ↓gate_tf, ↓gate_ft, ↓gate_undef, ↓o_bind, ↓stay_v, ↓pop_cons, ↓fin_nil, Option.isNone_none, Option.isNone_some, Bool.not_true, Bool.not_false, Nat.zero_add, decide_true, decide_false, if_true, if_false, Bool.false_eq_true, ↓reduceIte]
    exact k _ _ h.drop.drop
  simp only [h1, ↓o_nil, ↓o_field, ↓o_add, ↓o_sub, ↓o_mul, ↓o_lss, ↓o_leq, ↓o_gtr, ↓o_geq, ↓o_not, ↓o_pick, ↓o_eqInt, ↓o_neInt, ↓o_eqBool, ↓o_neBool, ↓o_eqPtr, ↓o_nePtr, ↓o_eqPtr', ↓o_eqSl, ↓o_neSl, ↓o_eqStr, ↓o_neStr, ↓o_len, ↓o_lenS, ↓o_min, ↓o_max, ↓o_extract, ↓o_convInt, ↓cd_true, ↓cd_false, ↓gate_tt, ↓gate_ff, ↓gate_tf, ↓gate_ft, ↓gate_undef, ↓o_bind, ↓stay_v, ↓pop_cons, ↓fin_nil, Option.isNone_none, Option.isNone_some, Bool.not_true, Bool.not_false, Nat.zero_add, decide_true, decide_false, if_true, if_false, Bool.false_eq_true, ↓reduceIte]
  refine ld_in (b := nb) (v := .int .i64 n) h rfl ?_
  try simp only [↓o_nil, ↓o_field, ↓o_add, ↓o_sub, ↓o_mul, ↓o_lss, ↓o_leq, ↓o_gtr, ↓o_geq, ↓o_not, ↓o_pick, ↓o_eqInt, ↓o_neInt, ↓o_eqBool, ↓o_neBool, ↓o_eqPtr, ↓o_nePtr, ↓o_eqPtr', ↓o_eqSl, ↓o_neSl, ↓o_eqStr, ↓o_neStr, ↓o_len, ↓o_lenS, ↓o_min, ↓o_max, ↓o_extract, ↓o_convInt, ↓cd_true, ↓cd_false, ↓gate_tt, ↓gate_ff, ↓gate_tf, ↓gate_ft, ↓gate_undef, ↓o_bind, ↓stay_v, ↓pop_cons, ↓fin_nil, Option.isNone_none, Option.isNone_some, Bool.not_true, Bool.not_false, Nat.zero_add, decide_true, decide_false, if_true, if_false, Bool.false_eq_true, ↓reduceIte]
  refine ld_in (b := cb) (v := .pointer (some ⟨p, 0, none⟩)) h rfl ?_
  try simp only [↓o_nil, ↓o_field, ↓o_add, ↓o_sub, ↓o_mul, ↓o_lss, ↓o_leq, ↓o_gtr, ↓o_geq, ↓o_not, ↓o_pick, ↓o_eqInt, ↓o_neInt, ↓o_eqBool, ↓o_neBool, ↓o_eqPtr, ↓o_nePtr, ↓o_eqPtr', ↓o_eqSl, ↓o_neSl, ↓o_eqStr, ↓o_neStr, ↓o_len, ↓o_lenS, ↓o_min, ↓o_max, ↓o_extract, ↓o_convInt, ↓cd_true, ↓cd_false, ↓gate_tt, ↓gate_ff, ↓gate_tf, ↓gate_ft, ↓gate_undef, ↓o_bind, ↓stay_v, ↓pop_cons, ↓fin_nil, Option.isNone_none, Option.isNone_some, Bool.not_true, Bool.not_false, Nat.zero_add, decide_true, decide_false, if_true, if_false, Bool.false_eq_true, ↓reduceIte]
  refine ld_in (b := p) (v := .int .i64 s.bn) h ic_bn ?_
  try simp only [↓o_nil, ↓o_field, ↓o_add, ↓o_sub, ↓o_mul, ↓o_lss, ↓o_leq, ↓o_gtr, ↓o_geq, ↓o_not, ↓o_pick, ↓o_eqInt, ↓o_neInt, ↓o_eqBool, ↓o_neBool, ↓o_eqPtr, ↓o_nePtr, ↓o_eqPtr', ↓o_eqSl, ↓o_neSl, ↓o_eqStr, ↓o_neStr, ↓o_len, ↓o_lenS, ↓o_min, ↓o_max, ↓o_extract, ↓o_convInt, ↓cd_true, ↓cd_false, ↓gate_tt, ↓gate_ff, ↓gate_tf, ↓gate_ft, ↓gate_undef, ↓o_bind, ↓stay_v, ↓pop_cons, ↓fin_nil, Option.isNone_none, Option.isNone_some, Bool.not_true, Bool.not_false, Nat.zero_add, decide_true, decide_false, if_true, if_false, Bool.false_eq_true, ↓reduceIte]
  by_cases h2 : n < s.bn
  · have e : pruneS s n = (s, 0, 2) := by unfold pruneS; rw [if_pos (.inr h2)]
    rw [e] at k
    simp only [h2, ↓o_nil, ↓o_field, ↓o_add, ↓o_sub, ↓o_mul, ↓o_lss, ↓o_leq, ↓o_gtr, ↓o_geq, ↓o_not, ↓o_pick, ↓o_eqInt, ↓o_neInt, ↓o_eqBool, ↓o_neBool, ↓o_eqPtr, ↓o_nePtr, ↓o_eqPtr', ↓o_eqSl, ↓o_neSl, ↓o_eqStr, ↓o_neStr, ↓o_len, ↓o_lenS, ↓o_min, ↓o_max, ↓o_extract, ↓o_convInt, ↓cd_true, ↓cd_false, ↓gate_tt, ↓gate_ff, ↓gate_tf, ↓gate_ft, ↓gate_undef, ↓o_bind, ↓stay_v, ↓pop_cons, ↓fin_nil, Option.isNone_none, Option.isNone_some, Bool.not_true, Bool.not_false, Nat.zero_add, decide_true, decide_false, if_true, if_false, Bool.false_eq_true, ↓reduceIte]
    exact k _ _ h.drop.drop
  simp only [h2, ↓o_nil, ↓o_field, ↓o_add, ↓o_sub, ↓o_mul, ↓o_lss, ↓o_leq, ↓o_gtr, ↓o_geq, ↓o_not, ↓o_pick, ↓o_eqInt, ↓o_neInt, ↓o_eqBool, ↓o_neBool, ↓o_eqPtr, ↓o_nePtr, ↓o_eqPtr', ↓o_eqSl, ↓o_neSl, ↓o_eqStr, ↓o_neStr, ↓o_len, ↓o_lenS, ↓o_min, ↓o_max, ↓o_extract, ↓o_convInt, ↓cd_true, ↓cd_false, ↓gate_tt, ↓gate_ff, ↓gate_tf, ↓gate_ft, ↓gate_undef, ↓o_bind, ↓stay_v, ↓pop_cons, ↓fin_nil, Option.isNone_none, Option.isNone_some, Bool.not_true, Bool.not_false, Nat.zero_add, decide_true, decide_false, if_true, if_false, Bool.false_eq_true, ↓reduceIte]
  obtain ⟨kk, hkk⟩ : ∃ kk : Nat, n = s.bn + kk := ⟨(n - s.bn).toNat, by omega⟩
  have e : pruneS s n = ({ s with bn := n, bh := links s.bh (s.l.take kk), l := s.l.drop kk }, (kk : Int), 0) := by
    unfold pruneS; rw [if_neg (by omega), show (n - s.bn).toNat = kk by omega, show n - s.bn = (kk : Int) by omega]
  rw [e] at k
  refine dr_sl h fun w h _ => ?_
  try simp only [↓o_nil, ↓o_field, ↓o_add, ↓o_sub, ↓o_mul, ↓o_lss, ↓o_leq, ↓o_gtr, ↓o_geq, ↓o_not, ↓o_pick, ↓o_eqInt, ↓o_neInt, ↓o_eqBool, ↓o_neBool, ↓o_eqPtr, ↓o_nePtr, ↓o_eqPtr', ↓o_eqSl, ↓o_neSl, ↓o_eqStr, ↓o_neStr, ↓o_len, ↓o_lenS, ↓o_min, ↓o_max, ↓o_extract, ↓o_convInt, ↓cd_true, ↓cd_false, ↓gate_tt, ↓gate_ff, ↓gate_tf, ↓gate_ft, ↓gate_undef, ↓o_bind, ↓stay_v, ↓pop_cons, ↓fin_nil, Option.isNone_none, Option.isNone_some, Bool.not_true, Bool.not_false, Nat.zero_add, decide_true, decide_false, if_true, if_false, Bool.false_eq_true, ↓reduceIte]
  refine ld_in (b := nb) (v := .int .i64 n) h rfl ?_
  refine ld_in (b := cb) (v := .pointer (some ⟨p, 0, none⟩)) h rfl ?_
  try simp only [↓o_nil, ↓o_field, ↓o_add, ↓o_sub, ↓o_mul, ↓o_lss, ↓o_leq, ↓o_gtr, ↓o_geq, ↓o_not, ↓o_pick, ↓o_eqInt, ↓o_neInt, ↓o_eqBool, ↓o_neBool, ↓o_eqPtr, ↓o_nePtr, ↓o_eqPtr', ↓o_eqSl, ↓o_neSl, ↓o_eqStr, ↓o_neStr, ↓o_len, ↓o_lenS, ↓o_min, ↓o_max, ↓o_extract, ↓o_convInt, ↓cd_true, ↓cd_false, ↓gate_tt, ↓gate_ff, ↓gate_tf, ↓gate_ft, ↓gate_undef, ↓o_bind, ↓stay_v, ↓pop_cons, ↓fin_nil, Option.isNone_none, Option.isNone_some, Bool.not_true, Bool.not_false, Nat.zero_add, decide_true, decide_false, if_true, if_false, Bool.false_eq_true, ↓reduceIte]
  refine ld_in (b := p) (v := .int .i64 s.bn) h ic_bn ?_
  rw [o_sub, i64_of (by omega) (by omega), show n - s.bn = (kk : Int) by omega]
  refine ld_in (b := cb) (v := .pointer (some ⟨p, 0, none⟩)) h rfl ?_
  refine c32 ?_
  unfold B32
  refine box_sl h fun xb w h => ?_
  have h : sat E w (boxP xb p * (boxN nb n * (boxP cb p * chI p s v R))) := h
  refine pvv_of (v := .func (.func 47) #[] #[.pointer (some ⟨xb, 0, none⟩)]) (fun _ => rfl) ?_
  refine rng_body h Tryd.func47 (by kernel_rfl) (by kernel_rfl) fun rec D D1 w h hround => ?_
  refine Links_spec (E := E) (p := p) (v := v) (c0 := xb) ok (by omega)
    (fun i => pur (i ≤ kk) * (pts D1 (rec .ready none) * (boxN nb n * (pts D (.deferred (some [])) * (boxP xb p * (boxP cb p * chI p s v R))))))
    (pts D1 (rec .done (some (.exit 1))) * (boxN nb n * (pts D (.deferred (some [])) * (boxP xb p * (boxP cb p * chI p { s with bn := n, bh := links s.bh (s.l.take kk) } v R)))))
    (sat_pur_star.2 ⟨by omega, h.perm (by ac_rfl)⟩) ?_ ?_ ?_ ?_ ?_ ?_ ?_
  · intro i w h
    exact ((sat_pur_star.1 h).2).has
  · intro i w h
    exact ((sat_pur_star.1 h).2).has
  · intro i
    exact Rds.under (H1 := pers (immS v s.l.length (evs s.l))) Rds.pers
  · intro i
    exact hd.up
  · clear h
    intro F i hi w K' h ht hf
    rw [star_left_comm] at h
    obtain ⟨hφ, h⟩ := sat_pur_star.1 h
    refine hround [.agg (pc s i).toArray] w K' rfl h.has ?_
    simp only [↓o_nil, ↓o_field, ↓o_add, ↓o_sub, ↓o_mul, ↓o_lss, ↓o_leq, ↓o_gtr, ↓o_geq, ↓o_not, ↓o_pick, ↓o_eqInt, ↓o_neInt, ↓o_eqBool, ↓o_neBool, ↓o_eqPtr, ↓o_nePtr, ↓o_eqPtr', ↓o_eqSl, ↓o_neSl, ↓o_eqStr, ↓o_neStr, ↓o_len, ↓o_lenS, ↓o_min, ↓o_max, ↓o_extract, ↓o_convInt, ↓cd_true, ↓cd_false, ↓gate_tt, ↓gate_ff, ↓gate_tf, ↓gate_ft, ↓gate_undef, ↓o_bind, ↓stay_v, ↓pop_cons, ↓fin_nil, Option.isNone_none, Option.isNone_some, Bool.not_true, Bool.not_false, Nat.zero_add, decide_true, decide_false, if_true, if_false, Bool.false_eq_true, ↓reduceIte]
    refine alloc_sl h fun pb w h => ?_
    have h : sat E w (pts pb (.cells z57.toArray 57 (0, 0)) * (F * (pts D1 (rec .ready none) * (boxN nb n * (pts D (.deferred (some [])) * (boxP xb p * (boxP cb p * chI p s v R))))))) := h
    refine store_all (b := pb) h (xs := z57) (vs := pc s i) rfl (pc_length ok i) (pc_one s i) fun w h => ?_
    refine ⟨h.has, ?_⟩
    have h := (h.own D1).set (rec .busy none)
    try simp only [↓o_nil, ↓o_field, ↓o_add, ↓o_sub, ↓o_mul, ↓o_lss, ↓o_leq, ↓o_gtr, ↓o_geq, ↓o_not, ↓o_pick, ↓o_eqInt, ↓o_neInt, ↓o_eqBool, ↓o_neBool, ↓o_eqPtr, ↓o_nePtr, ↓o_eqPtr', ↓o_eqSl, ↓o_neSl, ↓o_eqStr, ↓o_neStr, ↓o_len, ↓o_lenS, ↓o_min, ↓o_max, ↓o_extract, ↓o_convInt, ↓cd_true, ↓cd_false, ↓gate_tt, ↓gate_ff, ↓gate_tf, ↓gate_ft, ↓gate_undef, ↓o_bind, ↓stay_v, ↓pop_cons, ↓fin_nil, Option.isNone_none, Option.isNone_some, Bool.not_true, Bool.not_false, Nat.zero_add, decide_true, decide_false, if_true, if_false, Bool.false_eq_true, ↓reduceIte]
    refine ld_in (b := pb) (v := .int .i64 (s.bn + i)) h rfl ?_
    refine ld_in (b := nb) (v := .int .i64 n) h rfl ?_
    rw [o_eqInt]
    by_cases hq : s.bn + (i : Int) = n
    · have hik : i = kk := by omega
      rw [decide_eq_true hq]
      simp only [↓o_nil, ↓o_field, ↓o_add, ↓o_sub, ↓o_mul, ↓o_lss, ↓o_leq, ↓o_gtr, ↓o_geq, ↓o_not, ↓o_pick, ↓o_eqInt, ↓o_neInt, ↓o_eqBool, ↓o_neBool, ↓o_eqPtr, ↓o_nePtr, ↓o_eqPtr', ↓o_eqSl, ↓o_neSl, ↓o_eqStr, ↓o_neStr, ↓o_len, ↓o_lenS, ↓o_min, ↓o_max, ↓o_extract, ↓o_convInt, ↓cd_true, ↓cd_false, ↓gate_tt, ↓gate_ff, ↓gate_tf, ↓gate_ft, ↓gate_undef, ↓o_bind, ↓stay_v, ↓pop_cons, ↓fin_nil, Option.isNone_none, Option.isNone_some, Bool.not_true, Bool.not_false, Nat.zero_add, decide_true, decide_false, if_true, if_false, Bool.false_eq_true, ↓reduceIte]
      refine ld_in (b := cb) (v := .pointer (some ⟨p, 0, none⟩)) h rfl ?_
      refine ld_agg (b := pb) h (pc_length ok i) ?_
      try simp only [↓o_nil, ↓o_field, ↓o_add, ↓o_sub, ↓o_mul, ↓o_lss, ↓o_leq, ↓o_gtr, ↓o_geq, ↓o_not, ↓o_pick, ↓o_eqInt, ↓o_neInt, ↓o_eqBool, ↓o_neBool, ↓o_eqPtr, ↓o_nePtr, ↓o_eqPtr', ↓o_eqSl, ↓o_neSl, ↓o_eqStr, ↓o_neStr, ↓o_len, ↓o_lenS, ↓o_min, ↓o_max, ↓o_extract, ↓o_convInt, ↓cd_true, ↓cd_false, ↓gate_tt, ↓gate_ff, ↓gate_tf, ↓gate_ft, ↓gate_undef, ↓o_bind, ↓stay_v, ↓pop_cons, ↓fin_nil, Option.isNone_none, Option.isNone_some, Bool.not_true, Bool.not_false, Nat.zero_add, decide_true, decide_false, if_true, if_false, Bool.false_eq_true, ↓reduceIte]
      have e3 : pc s i = .int .i64 n :: (links s.bh (s.l.take kk)).map bv := by unfold pc; rw [hq, hik]
      rw [e3]
      refine store_part (b := p) h (icells { s with bn := n, bh := links s.bh (s.l.take kk) } v) (by simp [links_length _ ok.b]) (by rw [← e3]; exact pc_one s i) (by rw [ic_length ok]; omega) (ip_base ok) fun w h => ?_
      refine ⟨h.has, hf _ ?_⟩
      have h := (h.own D1).set (rec .done (some (.exit 1)))
      have h := h.lose pb
      show sat E _ (F * (pts D1 (rec .done (some (.exit 1))) * (boxN nb n * (pts D (.deferred (some [])) * (boxP xb p * (boxP cb p * (pts p (.cells (icells { s with bn := n, bh := links s.bh (s.l.take kk) } v).toArray 59 (0, 0)) * (pers (immS v s.l.length (evs s.l)) * R))))))))
      exact h.perm (by ac_rfl)
    · rw [decide_eq_false hq]
      simp only [↓o_nil, ↓o_field, ↓o_add, ↓o_sub, ↓o_mul, ↓o_lss, ↓o_leq, ↓o_gtr, ↓o_geq, ↓o_not, ↓o_pick, ↓o_eqInt, ↓o_neInt, ↓o_eqBool, ↓o_neBool, ↓o_eqPtr, ↓o_nePtr, ↓o_eqPtr', ↓o_eqSl, ↓o_neSl, ↓o_eqStr, ↓o_neStr, ↓o_len, ↓o_lenS, ↓o_min, ↓o_max, ↓o_extract, ↓o_convInt, ↓cd_true, ↓cd_false, ↓gate_tt, ↓gate_ff, ↓gate_tf, ↓gate_ft, ↓gate_undef, ↓o_bind, ↓stay_v, ↓pop_cons, ↓fin_nil, Option.isNone_none, Option.isNone_some, Bool.not_true, Bool.not_false, Nat.zero_add, decide_true, decide_false, if_true, if_false, Bool.false_eq_true, ↓reduceIte]
      refine ⟨h.has, ht _ ?_⟩
      have h := (h.own D1).set (rec .ready none)
      have h := h.lose pb
      rw [star_left_comm]
      exact sat_pur_star.2 ⟨by omega, h.perm (by ac_rfl)⟩
  · intro w h
    obtain ⟨hφ, h⟩ := sat_pur_star.1 h
    omega
  · intro w h
    refine ⟨.done, some (.exit 1), h.has, by simp, ?_⟩
    have h := (h.own D1).set (rec .exhausted (some (.exit 1)))
    simp only [jump, jump.jumpX]
    have h := ((h.lose D1).lose nb).lose xb
    have ok2 : Ok { s with bn := n, bh := links s.bh (s.l.take kk) } (m + s.l.length) := ⟨links_length _ ok.b, ok.a, ok.h, by simp only; omega, ok.a0, by simp only; omega, by simp only; omega, ok.few⟩
    exact prune_end (kk := kk) ok2 (by simp only; omega) h fun v' w h => k v' w h
end Go.Proofs.YtjeiojibnmfibaaDoor

/-
  What must be whatever is asked of a chain.
-/
set_option linter.all false
set_option maxRecDepth 10000
namespace Go.Proofs.YtjeiojibnmfibaaDoor
open Go Hold
variable {E : World0} {w : World} {H R X : HP} {K : Value → World → Prop}
def lg : List UInt8 := [108, 111, 103, 105, 110]
def tu : List UInt8 := [116, 47, 117]
def tk : List UInt8 := [116, 105, 99, 107]
def x1 : Evt := ⟨1, 5, lg, tu⟩
def y1 : Evt := ⟨2, 6, tk, []⟩
def h1 : List UInt8 := nx zeros32 x1
def h2 : List UInt8 := nx h1 y1
theorem numT_small {n : Nat} (h : n < 16) (h0 : n ≠ 0) : numT (n : Int) = [98, dig n] := by
  unfold numT number
  rw [if_neg (by omega)]
  show numText (n : Int).toNat = _
  rw [Int.toNat_natCast]
  unfold numText
  rw [hexs_small h h0]; rfl
theorem row_x1 : rowE x1 = [4, 2, 98, 49, 2, 98, 53, 5, 108, 111, 103, 105, 110, 3, 116, 47, 117] := by
  unfold rowE colsE
  rw [show x1.n = ((1 : Nat) : Int) from rfl, show x1.t = ((5 : Nat) : Int) from rfl, numT_small (by decide) (by decide), numT_small (by decide) (by decide)]
  decide
theorem h1_ne : (h1 == zeros32) = false := by
  have e : sha (zeros32 ++ [4, 2, 98, 49, 2, 98, 53, 5, 108, 111, 103, 105, 110, 3, 116, 47, 117]) ≠ zeros32 := by decide +kernel
  have e2 : h1 = sha (zeros32 ++ [4, 2, 98, 49, 2, 98, 53, 5, 108, 111, 103, 105, 110, 3, 116, 47, 117]) := by unfold h1 nx; rw [row_x1]
  rw [e2]
  simpa using e
def q1 : Ch := ⟨0, zeros32, 0, zeros32, h1, 5, [x1]⟩
def q2 : Ch := ⟨0, zeros32, 1, h1, h1, 5, [x1]⟩
def q3 : Ch := ⟨1, h1, 1, h1, h1, 5, []⟩
def q4 : Ch := ⟨1, h1, 1, h1, h2, 6, [y1]⟩
theorem add1 : addS newS 5 lg tu = (q1, x1, 0) := rfl
theorem anc1 : anchorS q1 = q2 := rfl
theorem pru1 : pruneS q2 1 = (q3, 1, 0) := rfl
theorem add2 : addS q3 6 tk [] = (q4, y1, 0) := rfl
theorem ver1 : verifyS q4 = 0 := by
  unfold verifyS
  rw [if_neg]
  rintro (h | h)
  · exact h.2 rfl
  · exact h rfl
theorem chI_in {p : Nat} {s : Ch} {v : Value} (h : sat E w (X * chI p s v R)) : sat E w (chI p s v (X * R)) := by
  unfold chI at h ⊢
  exact h.perm (by ac_rfl)
theorem hash_in (h : sat E w H) {l : List UInt8} (hl : l.length = 32) {K : Value → World → Prop} (k : ∀ b w', sat E w' (pts b (.cells (l.map bv).toArray 36 (0, 0)) * H) → K (.pointer (some ⟨b, 0, none⟩)) w') :
    efv prog (Instr.alloc 36 true (.tuple #[])) w fun x w => efu prog (Instr.storeAt 36 x (.agg (l.map bv).toArray)) w fun _ w => K x w := hash_var h hl k
theorem evt_in (h : sat E w H) {x : Evt} {K : Value → World → Prop} (k : ∀ b w', sat E w' (pts b (.cells (ecells x).toArray 34 (0, 0)) * H) → K (.pointer (some ⟨b, 0, none⟩)) w') :
    efv prog (Instr.alloc 34 true (.tuple #[])) w fun x' w => efu prog (Instr.storeAt 34 x' (ev x)) w fun _ w => K x' w := by
  refine alloc_sl h fun b w h => ?_
  have h : sat E w (pts b (.cells (ecells zeroE).toArray 34 (0, 0)) * H) := h
  exact store_all (b := b) h (xs := ecells zeroE) (vs := ecells x) rfl rfl (ecells_one x) fun w h => k b w h
theorem live_spec (h : sat E w H) (hd : Dbt H) (k : ∀ w', sat E w' H → K (.bool true) w') : Calls prog 11 #[] w (Ret K) := by
  have t0 : ∀ n : Int, decide (n = n) = true := fun n => decide_eq_true rfl
  have t1 : decide (q2.an = 1) = true := rfl
  refine c11 ?_
  unfold B11
  refine New_spec h fun p w h => ?_
  simp only [↓o_eqPtr, Option.isNone_some, ↓cd_false]
  refine Add_spec (a := lg) (b := tu) ok_new (by omega) hd h fun v w h => ?_
  rw [add1] at h ⊢
  rw [o_extract, o_extract]
  refine evt_in h fun xb w h => ?_
  have o1 : Ok q1 1 := ok_add (t := 5) (a := lg) (b := tu) ok_new
  refine Anchor_spec o1 (by omega) (chI_in h) fun w h => ?_
  rw [anc1] at h ⊢
  have o2 : Ok q2 1 := ok_anchor o1
  rw [o_extract, o_extract]
  refine hash_in h o2.a fun hb w h => ?_
  refine Prune_spec o2 (by omega) hd.up (chI_in h) fun v w h => ?_
  rw [pru1] at h ⊢
  have o3 : Ok q3 1 := ok_prune (n := 1) o2
  rw [o_extract, o_extract]
  refine Add_spec (a := tk) (b := []) o3 (by omega) hd.up h fun v w h => ?_
  rw [add2] at h ⊢
  have o4 : Ok q4 2 := ok_add (t := 6) (a := tk) (b := []) o3
  rw [o_extract, o_extract]
  refine evt_in h fun yb w h => ?_
  try simp only [t0, t1, ↓o_nil, ↓o_field, ↓o_add, ↓o_sub, ↓o_mul, ↓o_lss, ↓o_leq, ↓o_gtr, ↓o_geq, ↓o_not, ↓o_pick, ↓o_eqInt, ↓o_neInt, ↓o_eqBool, ↓o_neBool, ↓o_eqPtr, ↓o_nePtr, ↓o_eqPtr', ↓o_eqSl, ↓o_neSl, ↓o_eqStr, ↓o_neStr, ↓o_len, ↓o_lenS, ↓o_min, ↓o_max, ↓o_extract, ↓o_convInt, ↓cd_true, ↓cd_false, ↓gate_tt, ↓gate_ff, ↓gate_tf, ↓gate_ft, ↓gate_undef, ↓o_bind, ↓stay_v, ↓pop_cons, ↓fin_nil, Option.isNone_none, Option.isNone_some, Bool.not_true, Bool.not_false, Nat.zero_add, decide_true, decide_false, if_true, if_false, Bool.false_eq_true, ↓reduceIte]
  refine ld_in (b := xb) (v := .int .i64 1) h rfl ?_
  try simp only [t0, t1, ↓o_nil, ↓o_field, ↓o_add, ↓o_sub, ↓o_mul, ↓o_lss, ↓o_leq, ↓o_gtr, ↓o_geq, ↓o_not, ↓o_pick, ↓o_eqInt, ↓o_neInt, ↓o_eqBool, ↓o_neBool, ↓o_eqPtr, ↓o_nePtr, ↓o_eqPtr', ↓o_eqSl, ↓o_neSl, ↓o_eqStr, ↓o_neStr, ↓o_len, ↓o_lenS, ↓o_min, ↓o_max, ↓o_extract, ↓o_convInt, ↓cd_true, ↓cd_false, ↓gate_tt, ↓gate_ff, ↓gate_tf, ↓gate_ft, ↓gate_undef, ↓o_bind, ↓stay_v, ↓pop_cons, ↓fin_nil, Option.isNone_none, Option.isNone_some, Bool.not_true, Bool.not_false, Nat.zero_add, decide_true, decide_false, if_true, if_false, Bool.false_eq_true, ↓reduceIte]
  refine ld_agg (b := hb) h (by simpa using o2.a) ?_
  try simp only [t0, t1, ↓o_nil, ↓o_field, ↓o_add, ↓o_sub, ↓o_mul, ↓o_lss, ↓o_leq, ↓o_gtr, ↓o_geq, ↓o_not, ↓o_pick, ↓o_eqInt, ↓o_neInt, ↓o_eqBool, ↓o_neBool, ↓o_eqPtr, ↓o_nePtr, ↓o_eqPtr', ↓o_eqSl, ↓o_neSl, ↓o_eqStr, ↓o_neStr, ↓o_len, ↓o_lenS, ↓o_min, ↓o_max, ↓o_extract, ↓o_convInt, ↓cd_true, ↓cd_false, ↓gate_tt, ↓gate_ff, ↓gate_tf, ↓gate_ft, ↓gate_undef, ↓o_bind, ↓stay_v, ↓pop_cons, ↓fin_nil, Option.isNone_none, Option.isNone_some, Bool.not_true, Bool.not_false, Nat.zero_add, decide_true, decide_false, if_true, if_false, Bool.false_eq_true, ↓reduceIte]
  refine zeroH_build ?_
  try simp only [t0, t1, ↓o_nil, ↓o_field, ↓o_add, ↓o_sub, ↓o_mul, ↓o_lss, ↓o_leq, ↓o_gtr, ↓o_geq, ↓o_not, ↓o_pick, ↓o_eqInt, ↓o_neInt, ↓o_eqBool, ↓o_neBool, ↓o_eqPtr, ↓o_nePtr, ↓o_eqPtr', ↓o_eqSl, ↓o_neSl, ↓o_eqStr, ↓o_neStr, ↓o_len, ↓o_lenS, ↓o_min, ↓o_max, ↓o_extract, ↓o_convInt, ↓cd_true, ↓cd_false, ↓gate_tt, ↓gate_ff, ↓gate_tf, ↓gate_ft, ↓gate_undef, ↓o_bind, ↓stay_v, ↓pop_cons, ↓fin_nil, Option.isNone_none, Option.isNone_some, Bool.not_true, Bool.not_false, Nat.zero_add, decide_true, decide_false, if_true, if_false, Bool.false_eq_true, ↓reduceIte]
  rw [neq36 (show q2.ah.length = 32 from o2.a) (show zeros32.length = 32 from rfl), show (q2.ah == zeros32) = false from h1_ne]
  try simp only [t0, t1, ↓o_nil, ↓o_field, ↓o_add, ↓o_sub, ↓o_mul, ↓o_lss, ↓o_leq, ↓o_gtr, ↓o_geq, ↓o_not, ↓o_pick, ↓o_eqInt, ↓o_neInt, ↓o_eqBool, ↓o_neBool, ↓o_eqPtr, ↓o_nePtr, ↓o_eqPtr', ↓o_eqSl, ↓o_neSl, ↓o_eqStr, ↓o_neStr, ↓o_len, ↓o_lenS, ↓o_min, ↓o_max, ↓o_extract, ↓o_convInt, ↓cd_true, ↓cd_false, ↓gate_tt, ↓gate_ff, ↓gate_tf, ↓gate_ft, ↓gate_undef, ↓o_bind, ↓stay_v, ↓pop_cons, ↓fin_nil, Option.isNone_none, Option.isNone_some, Bool.not_true, Bool.not_false, Nat.zero_add, decide_true, decide_false, if_true, if_false, Bool.false_eq_true, ↓reduceIte]
  refine ld_in (b := yb) (v := .int .i64 2) h rfl ?_
  try simp only [t0, t1, ↓o_nil, ↓o_field, ↓o_add, ↓o_sub, ↓o_mul, ↓o_lss, ↓o_leq, ↓o_gtr, ↓o_geq, ↓o_not, ↓o_pick, ↓o_eqInt, ↓o_neInt, ↓o_eqBool, ↓o_neBool, ↓o_eqPtr, ↓o_nePtr, ↓o_eqPtr', ↓o_eqSl, ↓o_neSl, ↓o_eqStr, ↓o_neStr, ↓o_len, ↓o_lenS, ↓o_min, ↓o_max, ↓o_extract, ↓o_convInt, ↓cd_true, ↓cd_false, ↓gate_tt, ↓gate_ff, ↓gate_tf, ↓gate_ft, ↓gate_undef, ↓o_bind, ↓stay_v, ↓pop_cons, ↓fin_nil, Option.isNone_none, Option.isNone_some, Bool.not_true, Bool.not_false, Nat.zero_add, decide_true, decide_false, if_true, if_false, Bool.false_eq_true, ↓reduceIte]
  refine Verify_spec o4 (by omega) hd.up (chI_in h) fun w h => ?_
  rw [ver1]
  try simp only [t0, t1, ↓o_nil, ↓o_field, ↓o_add, ↓o_sub, ↓o_mul, ↓o_lss, ↓o_leq, ↓o_gtr, ↓o_geq, ↓o_not, ↓o_pick, ↓o_eqInt, ↓o_neInt, ↓o_eqBool, ↓o_neBool, ↓o_eqPtr, ↓o_nePtr, ↓o_eqPtr', ↓o_eqSl, ↓o_neSl, ↓o_eqStr, ↓o_neStr, ↓o_len, ↓o_lenS, ↓o_min, ↓o_max, ↓o_extract, ↓o_convInt, ↓cd_true, ↓cd_false, ↓gate_tt, ↓gate_ff, ↓gate_tf, ↓gate_ft, ↓gate_undef, ↓o_bind, ↓stay_v, ↓pop_cons, ↓fin_nil, Option.isNone_none, Option.isNone_some, Bool.not_true, Bool.not_false, Nat.zero_add, decide_true, decide_false, if_true, if_false, Bool.false_eq_true, ↓reduceIte]
  have h := ((h.lose yb).lose hb).lose xb
  unfold chI at h
  exact k _ h.drop.drop
end Go.Proofs.YtjeiojibnmfibaaDoor

/-
  The reference's chain.
-/
set_option linter.all false
set_option maxRecDepth 10000
namespace Go.Proofs.YtjeiojibnmfibaaDoor
open Go Hold
variable {E : World0} {w : World} {H R X : HP} {K : Value → World → Prop}
def rcells (s : Ch) (v : Value) : List Value := .int .i64 s.bn :: .int .i64 s.an :: .int .i64 s.last :: (s.bh.map bv ++ (s.ah.map bv ++ (s.hd.map bv ++ [v])))
section
variable {s : Ch} {v : Value} {m : Nat}
theorem rc_length (ok : Ok s m) : (rcells s v).length = 100 := by simp [rcells, ok.b, ok.a, ok.h]
theorem rc_l (ok : Ok s m) : (rcells s v)[99]? = some v := part_cell (.int .i64 s.bn :: .int .i64 s.an :: .int .i64 s.last :: (s.bh.map bv ++ (s.ah.map bv ++ s.hd.map bv))) [] (by simp [rcells]) (by simp [ok.b, ok.a, ok.h])
theorem rc_bh (ok : Ok s m) : ((rcells s v).drop 3).take 32 = s.bh.map bv := part_at [.int .i64 s.bn, .int .i64 s.an, .int .i64 s.last] _ (s.ah.map bv ++ (s.hd.map bv ++ [v])) (by simp [rcells]) rfl (by simp [ok.b])
theorem rc_ah (ok : Ok s m) : ((rcells s v).drop 35).take 32 = s.ah.map bv := part_at (.int .i64 s.bn :: .int .i64 s.an :: .int .i64 s.last :: s.bh.map bv) _ (s.hd.map bv ++ [v]) (by simp [rcells]) (by simp [ok.b]) (by simp [ok.a])
theorem rc_hd (ok : Ok s m) : ((rcells s v).drop 67).take 32 = s.hd.map bv := part_at (.int .i64 s.bn :: .int .i64 s.an :: .int .i64 s.last :: (s.bh.map bv ++ s.ah.map bv)) _ [v] (by simp [rcells]) (by simp [ok.b, ok.a]) (by simp [ok.h])
theorem rp_l (ok : Ok s m) {l : List Evt} {u : Value} : (rcells s v).set 99 u = rcells { s with l := l } u := part_set (.int .i64 s.bn :: .int .i64 s.an :: .int .i64 s.last :: (s.bh.map bv ++ (s.ah.map bv ++ s.hd.map bv))) [] (x := v) (by simp [rcells]) (by simp [ok.b, ok.a, ok.h]) (by simp [rcells])
theorem rp_hd (ok : Ok s m) {h : List UInt8} : (rcells s v).take 67 ++ h.map bv ++ (rcells s v).drop (67 + 32) = rcells { s with hd := h } v := part_put (.int .i64 s.bn :: .int .i64 s.an :: .int .i64 s.last :: (s.bh.map bv ++ s.ah.map bv)) (s.hd.map bv) [v] _ (by simp [rcells]) (by simp [ok.b, ok.a]) (by simp [ok.h]) (by simp [rcells])
theorem rp_ah (ok : Ok s m) {h : List UInt8} : (rcells s v).take 35 ++ h.map bv ++ (rcells s v).drop (35 + 32) = rcells { s with ah := h } v := part_put (.int .i64 s.bn :: .int .i64 s.an :: .int .i64 s.last :: s.bh.map bv) (s.ah.map bv) (s.hd.map bv ++ [v]) _ (by simp [rcells]) (by simp [ok.b]) (by simp [ok.a]) (by simp [rcells])
theorem rp_bh (ok : Ok s m) {h : List UInt8} : (rcells s v).take 3 ++ h.map bv ++ (rcells s v).drop (3 + 32) = rcells { s with bh := h } v := part_put [.int .i64 s.bn, .int .i64 s.an, .int .i64 s.last] (s.bh.map bv) (s.ah.map bv ++ (s.hd.map bv ++ [v])) _ (by simp [rcells]) rfl (by simp [ok.b]) (by simp [rcells])
end
abbrev chR (p : Nat) (s : Ch) (v : Value) (R : HP) : HP := pts p (.cells (rcells s v).toArray 61 (0, 0)) * (pers (immS v s.l.length (evs s.l)) * R)
theorem rds_evsR {v : Value} {s : Ch} {p : Nat} {R : HP} : Rds (chR p s v R) v s.l.length (evs s.l) := Rds.pers.left.right
theorem chR_in {p : Nat} {s : Ch} {v : Value} (h : sat E w (X * chR p s v R)) : sat E w (chR p s v (X * R)) := by
  unfold chR at h ⊢
  exact h.perm (by ac_rfl)
theorem RNew_spec (h : sat E w R) (k : ∀ p w', sat E w' (chR p newS (.slice none 0 0) R) → K (.pointer (some ⟨p, 0, none⟩)) w') : Calls prog 10 #[] w (Ret K) := by
  refine c10 ?_
  unfold B10
  refine pvv_of (v := .agg (rcells newS (.slice none 0 0)).toArray) (fun w => by kernel_rfl) ?_
  refine box_sl h fun p w h => k p w ?_
  have h : sat E w (pts p (.cells (rcells newS (.slice none 0 0)).toArray 61 (0, 0)) * R) := h
  unfold chR
  rw [star_left_comm]
  exact h.mono fun I h' hp' => (pers_star_p _ _ _ _).2 ⟨⟨none, 0, rfl, Nat.le_refl _, .inl rfl⟩, hp'⟩
theorem RCount_spec {p m : Nat} {s : Ch} {a : Option Addr} {c : Nat} (ok : Ok s m) (hm : m ≤ 1000000000000000) (h : sat E w H) [Has H p (.cells (rcells s (.slice a s.l.length c)).toArray 61 (0, 0))]
    (k : ∀ w', sat E w' H → K (.int .i64 (s.bn + s.l.length)) w') : Calls prog 36 #[.pointer (some ⟨p, 0, none⟩)] w (Ret K) := by
  have := ok.b0; have := ok.top; have := ok.few
  refine c36 ?_
  unfold B36
  simp only [↓o_eqPtr, Option.isNone_some, ↓cd_false]
  refine dr_sl h fun w h _ => ?_
  try simp only [↓o_nil, ↓o_field, ↓o_add, ↓o_sub, ↓o_mul, ↓o_lss, ↓o_leq, ↓o_gtr, ↓o_geq, ↓o_not, ↓o_pick, ↓o_eqInt, ↓o_neInt, ↓o_eqBool, ↓o_neBool, ↓o_eqPtr, ↓o_nePtr, ↓o_eqPtr', ↓o_eqSl, ↓o_neSl, ↓o_eqStr, ↓o_neStr, ↓o_len, ↓o_lenS, ↓o_min, ↓o_max, ↓o_extract, ↓o_convInt, ↓cd_true, ↓cd_false, ↓gate_tt, ↓gate_ff, ↓gate_tf, ↓gate_ft, ↓gate_undef, ↓o_bind, ↓stay_v, ↓pop_cons, ↓fin_nil, Option.isNone_none, Option.isNone_some, Bool.not_true, Bool.not_false, Nat.zero_add, decide_true, decide_false, if_true, if_false, Bool.false_eq_true, ↓reduceIte]
  refine ld_in (b := p) (v := .int .i64 s.bn) h rfl ?_
  refine ld_in (b := p) (v := .slice a s.l.length c) h (rc_l ok) ?_
  rw [o_len, o_add, i64_of (by omega) (by omega)]
  exact k _ h
theorem RHead_spec {p m : Nat} {s : Ch} {v : Value} (ok : Ok s m) (h : sat E w H) [Has H p (.cells (rcells s v).toArray 61 (0, 0))]
    (k : ∀ w', sat E w' H → K (.agg (s.hd.map bv).toArray) w') : Calls prog 35 #[.pointer (some ⟨p, 0, none⟩)] w (Ret K) := by
  refine c35 ?_
  unfold B35
  refine alloc_sl h fun b w h => ?_
  have h : sat E w (pts b (.cells (zeros32.map bv).toArray 36 (0, 0)) * H) := h
  try simp only [↓o_nil, ↓o_field, ↓o_add, ↓o_sub, ↓o_mul, ↓o_lss, ↓o_leq, ↓o_gtr, ↓o_geq, ↓o_not, ↓o_pick, ↓o_eqInt, ↓o_neInt, ↓o_eqBool, ↓o_neBool, ↓o_eqPtr, ↓o_nePtr, ↓o_eqPtr', ↓o_eqSl, ↓o_neSl, ↓o_eqStr, ↓o_neStr, ↓o_len, ↓o_lenS, ↓o_min, ↓o_max, ↓o_extract, ↓o_convInt, ↓cd_true, ↓cd_false, ↓gate_tt, ↓gate_ff, ↓gate_tf, ↓gate_ft, ↓gate_undef, ↓o_bind, ↓stay_v, ↓pop_cons, ↓fin_nil, Option.isNone_none, Option.isNone_some, Bool.not_true, Bool.not_false, Nat.zero_add, decide_true, decide_false, if_true, if_false, Bool.false_eq_true, ↓reduceIte]
  refine ld_part (b := p) h (s.hd.map bv) (by simp [ok.h]) (rc_hd ok) ?_
  exact hash_ret (b := b) h ok.h (ol := zeros32) rfl fun w h => k _ h.drop
theorem RAnchored_spec {p m : Nat} {s : Ch} {v : Value} (ok : Ok s m) (h : sat E w H) [Has H p (.cells (rcells s v).toArray 61 (0, 0))]
    (k : ∀ w', sat E w' H → K (.tuple #[.int .i64 s.an, .agg (s.ah.map bv).toArray]) w') : Calls prog 34 #[.pointer (some ⟨p, 0, none⟩)] w (Ret K) := by
  refine c34 ?_
  unfold B34
  refine alloc_sl h fun b w h => ?_
  have h : sat E w (pts b (.cells (zeros32.map bv).toArray 36 (0, 0)) * H) := h
  simp only [↓o_eqPtr, Option.isNone_some, ↓cd_false]
  refine dr_sl h fun w h _ => ?_
  try simp only [↓o_nil, ↓o_field, ↓o_add, ↓o_sub, ↓o_mul, ↓o_lss, ↓o_leq, ↓o_gtr, ↓o_geq, ↓o_not, ↓o_pick, ↓o_eqInt, ↓o_neInt, ↓o_eqBool, ↓o_neBool, ↓o_eqPtr, ↓o_nePtr, ↓o_eqPtr', ↓o_eqSl, ↓o_neSl, ↓o_eqStr, ↓o_neStr, ↓o_len, ↓o_lenS, ↓o_min, ↓o_max, ↓o_extract, ↓o_convInt, ↓cd_true, ↓cd_false, ↓gate_tt, ↓gate_ff, ↓gate_tf, ↓gate_ft, ↓gate_undef, ↓o_bind, ↓stay_v, ↓pop_cons, ↓fin_nil, Option.isNone_none, Option.isNone_some, Bool.not_true, Bool.not_false, Nat.zero_add, decide_true, decide_false, if_true, if_false, Bool.false_eq_true, ↓reduceIte]
  refine ld_in (b := p) (v := .int .i64 s.an) h rfl ?_
  refine ld_part (b := p) h (s.ah.map bv) (by simp [ok.a]) (rc_ah ok) ?_
  exact hash_ret3 (b := b) h ok.a (ol := zeros32) rfl fun w h => k _ h.drop
theorem RAnchor_spec {p m : Nat} {s : Ch} {v : Value} (ok : Ok s m) (hm : m ≤ 1000000000000000) (h : sat E w (chR p s v R))
    (k : ∀ w', sat E w' (chR p (anchorS s) v R) → K (.tuple #[.int .i64 (anchorS s).an, .agg ((anchorS s).ah.map bv).toArray]) w') : Calls prog 27 #[.pointer (some ⟨p, 0, none⟩)] w (Ret K) := by
  obtain ⟨a, c, rfl, hc, hv, _⟩ := (rds_evsR (s := s)).shape h
  refine c27 ?_
  unfold B27
  refine alloc_sl h fun b w h => ?_
  have h : sat E w (pts b (.cells (zeros32.map bv).toArray 36 (0, 0)) * chR p s (.slice a s.l.length c) R) := h
  simp only [↓o_eqPtr, Option.isNone_some, ↓cd_false]
  refine dr_sl h fun w h _ => ?_
  try simp only [↓o_nil, ↓o_field, ↓o_add, ↓o_sub, ↓o_mul, ↓o_lss, ↓o_leq, ↓o_gtr, ↓o_geq, ↓o_not, ↓o_pick, ↓o_eqInt, ↓o_neInt, ↓o_eqBool, ↓o_neBool, ↓o_eqPtr, ↓o_nePtr, ↓o_eqPtr', ↓o_eqSl, ↓o_neSl, ↓o_eqStr, ↓o_neStr, ↓o_len, ↓o_lenS, ↓o_min, ↓o_max, ↓o_extract, ↓o_convInt, ↓cd_true, ↓cd_false, ↓gate_tt, ↓gate_ff, ↓gate_tf, ↓gate_ft, ↓gate_undef, ↓o_bind, ↓stay_v, ↓pop_cons, ↓fin_nil, Option.isNone_none, Option.isNone_some, Bool.not_true, Bool.not_false, Nat.zero_add, decide_true, decide_false, if_true, if_false, Bool.false_eq_true, ↓reduceIte]
  refine ld_part (b := p) h (s.hd.map bv) (by simp [ok.h]) (rc_hd ok) ?_
  refine RCount_spec ok hm h fun w h => ?_
  refine st_part (b := p) h (s.hd.map bv) (by simp [ok.h]) (rc_hd ok) ?_
  try simp only [↓o_nil, ↓o_field, ↓o_add, ↓o_sub, ↓o_mul, ↓o_lss, ↓o_leq, ↓o_gtr, ↓o_geq, ↓o_not, ↓o_pick, ↓o_eqInt, ↓o_neInt, ↓o_eqBool, ↓o_neBool, ↓o_eqPtr, ↓o_nePtr, ↓o_eqPtr', ↓o_eqSl, ↓o_neSl, ↓o_eqStr, ↓o_neStr, ↓o_len, ↓o_lenS, ↓o_min, ↓o_max, ↓o_extract, ↓o_convInt, ↓cd_true, ↓cd_false, ↓gate_tt, ↓gate_ff, ↓gate_tf, ↓gate_ft, ↓gate_undef, ↓o_bind, ↓stay_v, ↓pop_cons, ↓fin_nil, Option.isNone_none, Option.isNone_some, Bool.not_true, Bool.not_false, Nat.zero_add, decide_true, decide_false, if_true, if_false, Bool.false_eq_true, ↓reduceIte]
  refine store_sl (b := p) h rfl (by rw [rc_length ok]; omega) fun w h => ?_
  have h : sat E w (pts p (.cells (rcells { s with an := s.bn + s.l.length } (.slice a s.l.length c)).toArray 61 (0, 0)) * _) := h
  have ok1 : Ok { s with an := s.bn + s.l.length } m := ⟨ok.b, ok.a, ok.h, ok.b0, (ok_anchor ok).a0, (ok_anchor ok).le, ok.top, ok.few⟩
  refine store_part (b := p) h (rcells (anchorS s) (.slice a s.l.length c)) (vs := s.hd.map bv) (by simp [ok.h]) (bv_one _) (by rw [rc_length ok1]; omega) (rp_ah ok1) fun w h => ?_
  refine dr_sl h fun w h _ => ?_
  try simp only [↓o_nil, ↓o_field, ↓o_add, ↓o_sub, ↓o_mul, ↓o_lss, ↓o_leq, ↓o_gtr, ↓o_geq, ↓o_not, ↓o_pick, ↓o_eqInt, ↓o_neInt, ↓o_eqBool, ↓o_neBool, ↓o_eqPtr, ↓o_nePtr, ↓o_eqPtr', ↓o_eqSl, ↓o_neSl, ↓o_eqStr, ↓o_neStr, ↓o_len, ↓o_lenS, ↓o_min, ↓o_max, ↓o_extract, ↓o_convInt, ↓cd_true, ↓cd_false, ↓gate_tt, ↓gate_ff, ↓gate_tf, ↓gate_ft, ↓gate_undef, ↓o_bind, ↓stay_v, ↓pop_cons, ↓fin_nil, Option.isNone_none, Option.isNone_some, Bool.not_true, Bool.not_false, Nat.zero_add, decide_true, decide_false, if_true, if_false, Bool.false_eq_true, ↓reduceIte]
  refine ld_in (b := p) (v := .int .i64 (anchorS s).an) h rfl ?_
  refine ld_part (b := p) h ((anchorS s).ah.map bv) (by simp [(ok_anchor ok).a]) (rc_ah (ok_anchor ok)) ?_
  refine hash_ret3 (b := b) h (l := (anchorS s).ah) (ok_anchor ok).a (ol := zeros32) rfl fun w h => k _ ?_
  have h := h.drop
  exact h
theorem REvents_spec {p m : Nat} {s : Ch} {v : Value} (ok : Ok s m) (h : sat E w (chR p s v R)) (k : ∀ u w', sat E w' (osl 34 4 u s.l.length (evs s.l) * chR p s v R) → K u w') : Calls prog 33 #[.pointer (some ⟨p, 0, none⟩)] w (Ret K) := by
  have := ok.few
  obtain ⟨a, c, rfl, hc, hv, _⟩ := (rds_evsR (s := s)).shape h
  refine c33 ?_
  unfold B33
  refine jn_cut (fun σ w => ∃ u, σ = [u] ∧ sat E w (osl 34 4 u s.l.length (evs s.l) * chR p s (.slice a s.l.length c) R)) (fun kk hkk => ?_) ?_
  · simp only [↓o_nil, ↓o_field, ↓o_add, ↓o_sub, ↓o_mul, ↓o_lss, ↓o_leq, ↓o_gtr, ↓o_geq, ↓o_not, ↓o_pick, ↓o_eqInt, ↓o_neInt, ↓o_eqBool, ↓o_neBool, ↓o_eqPtr, ↓o_nePtr, ↓o_eqPtr', ↓o_eqSl, ↓o_neSl, ↓o_eqStr, ↓o_neStr, ↓o_len, ↓o_lenS, ↓o_min, ↓o_max, ↓o_extract, ↓o_convInt, ↓cd_true, ↓cd_false, ↓gate_tt, ↓gate_ff, ↓gate_tf, ↓gate_ft, ↓gate_undef, ↓o_bind, ↓stay_v, ↓pop_cons, ↓fin_nil, Option.isNone_none, Option.isNone_some, Bool.not_true, Bool.not_false, Nat.zero_add, decide_true, decide_false, if_true, if_false, Bool.false_eq_true, ↓reduceIte]
    refine ld_in (b := p) (v := .slice a s.l.length c) h (rc_l ok) ?_
    have h0 := osl_nil h 34 4
    refine append_sl h0 (evs s.l) (evs_length _) (hv.win h) (evs_one _) (by omega) (by omega) fun u w h => ?_
    refine hkk _ _ ⟨u, rfl, ?_⟩
    simpa using h
  · clear h
    rintro σ w ⟨u, rfl, h⟩
    try simp only [↓o_nil, ↓o_field, ↓o_add, ↓o_sub, ↓o_mul, ↓o_lss, ↓o_leq, ↓o_gtr, ↓o_geq, ↓o_not, ↓o_pick, ↓o_eqInt, ↓o_neInt, ↓o_eqBool, ↓o_neBool, ↓o_eqPtr, ↓o_nePtr, ↓o_eqPtr', ↓o_eqSl, ↓o_neSl, ↓o_eqStr, ↓o_neStr, ↓o_len, ↓o_lenS, ↓o_min, ↓o_max, ↓o_extract, ↓o_convInt, ↓cd_true, ↓cd_false, ↓gate_tt, ↓gate_ff, ↓gate_tf, ↓gate_ft, ↓gate_undef, ↓o_bind, ↓stay_v, ↓pop_cons, ↓fin_nil, Option.isNone_none, Option.isNone_some, Bool.not_true, Bool.not_false, Nat.zero_add, decide_true, decide_false, if_true, if_false, Bool.false_eq_true, ↓reduceIte]
    exact k u w h
theorem RChainE_spec (h : sat E w H) {l : List UInt8} (hl : l.length = 32) {x : Evt} {v : Value} (hv : Rds H v (rowE x).length ((rowE x).map bv)) (k : ∀ w', sat E w' H → K (.agg ((nx l x).map bv).toArray) w') : Calls prog 42 #[.agg (l.map bv).toArray, v] w (Ret K) := by
  have := row_le (colsE x)
  exact RChain_spec h hl hv (by unfold rowE; omega) k
theorem At_spec {p m kk : Nat} {s : Ch} {v : Value} (ok : Ok s m) (hk : kk ≤ s.l.length) (h : sat E w (chR p s v R))
    (k : ∀ w', sat E w' (chR p s v R) → K (.agg ((links s.bh (s.l.take kk)).map bv).toArray) w') : Calls prog 44 #[.pointer (some ⟨p, 0, none⟩), .int .i64 (kk : Int)] w (Ret K) := by
  have := ok.few
  obtain ⟨a, c, rfl, hc, hv, _⟩ := (rds_evsR (s := s)).shape h
  refine c44 ?_
  unfold B44
  refine alloc_sl h fun b w h => ?_
  have h : sat E w (pts b (.cells (zeros32.map bv).toArray 36 (0, 0)) * chR p s (.slice a s.l.length c) R) := h
  rw [o_nil, o_field]
  refine ld_part (b := p) h (s.bh.map bv) (by simp [ok.b]) (rc_bh ok) ?_
  refine hash_in h ok.b fun hb w h => ?_
  refine lp_nat (fun q σ w => ∃ i : Nat, σ = [.int .i64 (i : Int)] ∧ q = kk - i ∧ i ≤ kk ∧ sat E w (pts hb (.cells ((links s.bh (s.l.take i)).map bv).toArray 36 (0, 0)) * (pts b (.cells (zeros32.map bv).toArray 36 (0, 0)) * chR p s (.slice a s.l.length c) R))) kk
    ⟨0, rfl, by omega, by omega, h⟩ ?_
  clear h
  rintro q σ w again ⟨i, rfl, rfl, hi, h⟩ hag
  rw [pop_cons, fin_nil, o_lss]
  refine cd_dec (fun hlt => ?_) (fun hge => ?_)
  · have hi2 : i < s.l.length := by omega
    refine dr_sl h fun w h _ => ?_
    try simp only [↓o_nil, ↓o_field, ↓o_add, ↓o_sub, ↓o_mul, ↓o_lss, ↓o_leq, ↓o_gtr, ↓o_geq, ↓o_not, ↓o_pick, ↓o_eqInt, ↓o_neInt, ↓o_eqBool, ↓o_neBool, ↓o_eqPtr, ↓o_nePtr, ↓o_eqPtr', ↓o_eqSl, ↓o_neSl, ↓o_eqStr, ↓o_neStr, ↓o_len, ↓o_lenS, ↓o_min, ↓o_max, ↓o_extract, ↓o_convInt, ↓cd_true, ↓cd_false, ↓gate_tt, ↓gate_ff, ↓gate_tf, ↓gate_ft, ↓gate_undef, ↓o_bind, ↓stay_v, ↓pop_cons, ↓fin_nil, Option.isNone_none, Option.isNone_some, Bool.not_true, Bool.not_false, Nat.zero_add, decide_true, decide_false, if_true, if_false, Bool.false_eq_true, ↓reduceIte]
    refine ld_agg (b := hb) h (by simp [links_length _ ok.b]) ?_
    refine ld_in (b := p) (v := .slice a s.l.length c) h (rc_l ok) ?_
    obtain ⟨b', o', c', e, hc', hrd⟩ := hv.opened h.drop.drop (by rw [evs_length]; omega)
    cases e
    rw [o_index (by omega) (by omega)]
    refine ld_el h (hrd.right.right) (i * 4) (by simp) (ecells s.l[i]) rfl (evs_at (by simp [hi2])) ?_
    refine Bytes_spec h fun u w h => ?_
    refine st_in (b := p) (v := .slice _ s.l.length c) h (rc_l ok) ?_
    refine st_agg (b := hb) h (by simp [links_length _ ok.b]) ?_
    refine RChainE_spec h (links_length _ ok.b) Rds.osl.left fun w h => ?_
    refine st_el h (hrd.right.right.right) (i * 4) (by simp) (ecells s.l[i]) rfl (evs_at (by simp [hi2])) ?_
    refine st_in (b := p) (v := .slice _ s.l.length c) h (rc_l ok) ?_
    rw [← links_snoc hi2]
    have h := h.drop
    refine store_all (b := hb) h (xs := (links s.bh (s.l.take i)).map bv) (vs := (links s.bh (s.l.take (i + 1))).map bv) (by simp [links_length _ ok.b]) (by simp [links_length _ ok.b]) (bv_one _) fun w h => ?_
    try simp only [↓o_nil, ↓o_field, ↓o_add, ↓o_sub, ↓o_mul, ↓o_lss, ↓o_leq, ↓o_gtr, ↓o_geq, ↓o_not, ↓o_pick, ↓o_eqInt, ↓o_neInt, ↓o_eqBool, ↓o_neBool, ↓o_eqPtr, ↓o_nePtr, ↓o_eqPtr', ↓o_eqSl, ↓o_neSl, ↓o_eqStr, ↓o_neStr, ↓o_len, ↓o_lenS, ↓o_min, ↓o_max, ↓o_extract, ↓o_convInt, ↓cd_true, ↓cd_false, ↓gate_tt, ↓gate_ff, ↓gate_tf, ↓gate_ft, ↓gate_undef, ↓o_bind, ↓stay_v, ↓pop_cons, ↓fin_nil, Option.isNone_none, Option.isNone_some, Bool.not_true, Bool.not_false, Nat.zero_add, decide_true, decide_false, if_true, if_false, Bool.false_eq_true, ↓reduceIte]
    rw [i64_of (by omega) (by omega)]
    exact hag (kk - (i + 1)) _ _ (by omega) ⟨i + 1, rfl, rfl, by omega, h⟩
  · have hi2 : i = kk := by omega
    rw [hi2] at h
    refine ld_agg (b := hb) h (by simp [links_length _ ok.b]) ?_
    exact hash_ret (b := b) h (links_length _ ok.b) (ol := zeros32) rfl fun w h => k _ h.drop.drop
theorem RVerify_spec {p m : Nat} {s : Ch} {v : Value} (ok : Ok s m) (hm : m ≤ 1000000000000) (h : sat E w (chR p s v R))
    (k : ∀ w', sat E w' (chR p s v R) → K (.int .i64 (verifyS s)) w') : Calls prog 29 #[.pointer (some ⟨p, 0, none⟩)] w (Ret K) := by
  have := ok.few; have := ok.top; have := ok.b0; have := ok.le; have := ok.a0
  obtain ⟨a, c, rfl, hc, hv, _⟩ := (rds_evsR (s := s)).shape h
  refine c29 ?_
  unfold B29
  simp only [↓o_eqPtr, Option.isNone_some, ↓cd_false]
  refine dr_sl h fun w h _ => ?_
  try simp only [↓o_nil, ↓o_field, ↓o_add, ↓o_sub, ↓o_mul, ↓o_lss, ↓o_leq, ↓o_gtr, ↓o_geq, ↓o_not, ↓o_pick, ↓o_eqInt, ↓o_neInt, ↓o_eqBool, ↓o_neBool, ↓o_eqPtr, ↓o_nePtr, ↓o_eqPtr', ↓o_eqSl, ↓o_neSl, ↓o_eqStr, ↓o_neStr, ↓o_len, ↓o_lenS, ↓o_min, ↓o_max, ↓o_extract, ↓o_convInt, ↓cd_true, ↓cd_false, ↓gate_tt, ↓gate_ff, ↓gate_tf, ↓gate_ft, ↓gate_undef, ↓o_bind, ↓stay_v, ↓pop_cons, ↓fin_nil, Option.isNone_none, Option.isNone_some, Bool.not_true, Bool.not_false, Nat.zero_add, decide_true, decide_false, if_true, if_false, Bool.false_eq_true, ↓reduceIte]
  refine ld_in (b := p) (v := .slice a s.l.length c) h (rc_l ok) ?_
  rw [o_len]
  refine ld_part (b := p) h (s.hd.map bv) (by simp [ok.h]) (rc_hd ok) ?_
  refine At_spec ok (Nat.le_refl _) h fun w h => ?_
  refine st_part (b := p) h (s.hd.map bv) (by simp [ok.h]) (rc_hd ok) ?_
  refine st_in (b := p) (v := .slice a s.l.length c) h (rc_l ok) ?_
  rw [neq36 (links_length _ ok.b) ok.h, List.take_length]
  by_cases hr : links s.bh s.l = s.hd
  · rw [show (!(links s.bh s.l == s.hd)) = false by simp [hr]]
    rw [cd_false]
    refine dr_sl h fun w h _ => ?_
    try simp only [↓o_nil, ↓o_field, ↓o_add, ↓o_sub, ↓o_mul, ↓o_lss, ↓o_leq, ↓o_gtr, ↓o_geq, ↓o_not, ↓o_pick, ↓o_eqInt, ↓o_neInt, ↓o_eqBool, ↓o_neBool, ↓o_eqPtr, ↓o_nePtr, ↓o_eqPtr', ↓o_eqSl, ↓o_neSl, ↓o_eqStr, ↓o_neStr, ↓o_len, ↓o_lenS, ↓o_min, ↓o_max, ↓o_extract, ↓o_convInt, ↓cd_true, ↓cd_false, ↓gate_tt, ↓gate_ff, ↓gate_tf, ↓gate_ft, ↓gate_undef, ↓o_bind, ↓stay_v, ↓pop_cons, ↓fin_nil, Option.isNone_none, Option.isNone_some, Bool.not_true, Bool.not_false, Nat.zero_add, decide_true, decide_false, if_true, if_false, Bool.false_eq_true, ↓reduceIte]
    refine ld_in (b := p) (v := .int .i64 s.an) h rfl ?_
    refine ld_in (b := p) (v := .int .i64 s.bn) h rfl ?_
    rw [o_geq]
    by_cases hb : s.bn ≤ s.an
    · simp only [hb, ↓o_nil, ↓o_field, ↓o_add, ↓o_sub, ↓o_mul, ↓o_lss, ↓o_leq, ↓o_gtr, ↓o_geq, ↓o_not, ↓o_pick, ↓o_eqInt, ↓o_neInt, ↓o_eqBool, ↓o_neBool, ↓o_eqPtr, ↓o_nePtr, ↓o_eqPtr', ↓o_eqSl, ↓o_neSl, ↓o_eqStr, ↓o_neStr, ↓o_len, ↓o_lenS, ↓o_min, ↓o_max, ↓o_extract, ↓o_convInt, ↓cd_true, ↓cd_false, ↓gate_tt, ↓gate_ff, ↓gate_tf, ↓gate_ft, ↓gate_undef, ↓o_bind, ↓stay_v, ↓pop_cons, ↓fin_nil, Option.isNone_none, Option.isNone_some, Bool.not_true, Bool.not_false, Nat.zero_add, decide_true, decide_false, if_true, if_false, Bool.false_eq_true, ↓reduceIte]
      refine ld_in (b := p) (v := .int .i64 s.an) h rfl ?_
      try simp only [↓o_nil, ↓o_field, ↓o_add, ↓o_sub, ↓o_mul, ↓o_lss, ↓o_leq, ↓o_gtr, ↓o_geq, ↓o_not, ↓o_pick, ↓o_eqInt, ↓o_neInt, ↓o_eqBool, ↓o_neBool, ↓o_eqPtr, ↓o_nePtr, ↓o_eqPtr', ↓o_eqSl, ↓o_neSl, ↓o_eqStr, ↓o_neStr, ↓o_len, ↓o_lenS, ↓o_min, ↓o_max, ↓o_extract, ↓o_convInt, ↓cd_true, ↓cd_false, ↓gate_tt, ↓gate_ff, ↓gate_tf, ↓gate_ft, ↓gate_undef, ↓o_bind, ↓stay_v, ↓pop_cons, ↓fin_nil, Option.isNone_none, Option.isNone_some, Bool.not_true, Bool.not_false, Nat.zero_add, decide_true, decide_false, if_true, if_false, Bool.false_eq_true, ↓reduceIte]
      refine ld_in (b := p) (v := .int .i64 s.bn) h rfl ?_
      try simp only [↓o_nil, ↓o_field, ↓o_add, ↓o_sub, ↓o_mul, ↓o_lss, ↓o_leq, ↓o_gtr, ↓o_geq, ↓o_not, ↓o_pick, ↓o_eqInt, ↓o_neInt, ↓o_eqBool, ↓o_neBool, ↓o_eqPtr, ↓o_nePtr, ↓o_eqPtr', ↓o_eqSl, ↓o_neSl, ↓o_eqStr, ↓o_neStr, ↓o_len, ↓o_lenS, ↓o_min, ↓o_max, ↓o_extract, ↓o_convInt, ↓cd_true, ↓cd_false, ↓gate_tt, ↓gate_ff, ↓gate_tf, ↓gate_ft, ↓gate_undef, ↓o_bind, ↓stay_v, ↓pop_cons, ↓fin_nil, Option.isNone_none, Option.isNone_some, Bool.not_true, Bool.not_false, Nat.zero_add, decide_true, decide_false, if_true, if_false, Bool.false_eq_true, ↓reduceIte]
      have t3 : IntKind.i64.wrap (s.an - s.bn) = ((s.an - s.bn).toNat : Int) := by rw [i64_of (by omega) (by omega)]; omega
      rw [t3]
      refine ld_part (b := p) h (s.ah.map bv) (by simp [ok.a]) (rc_ah ok) ?_
      try simp only [↓o_nil, ↓o_field, ↓o_add, ↓o_sub, ↓o_mul, ↓o_lss, ↓o_leq, ↓o_gtr, ↓o_geq, ↓o_not, ↓o_pick, ↓o_eqInt, ↓o_neInt, ↓o_eqBool, ↓o_neBool, ↓o_eqPtr, ↓o_nePtr, ↓o_eqPtr', ↓o_eqSl, ↓o_neSl, ↓o_eqStr, ↓o_neStr, ↓o_len, ↓o_lenS, ↓o_min, ↓o_max, ↓o_extract, ↓o_convInt, ↓cd_true, ↓cd_false, ↓gate_tt, ↓gate_ff, ↓gate_tf, ↓gate_ft, ↓gate_undef, ↓o_bind, ↓stay_v, ↓pop_cons, ↓fin_nil, Option.isNone_none, Option.isNone_some, Bool.not_true, Bool.not_false, Nat.zero_add, decide_true, decide_false, if_true, if_false, Bool.false_eq_true, ↓reduceIte]
      refine At_spec ok (kk := (s.an - s.bn).toNat) (by omega) h fun w h => ?_
      refine stv_of (run_loadN (by simp [ok.a]) fun j v hj => cell_of (sat.has h) (by simpa using take_cell (rc_ah ok) hj)) ?_
      refine st_in (b := p) (v := .int .i64 s.bn) h rfl ?_
      refine st_in (b := p) (v := .int .i64 s.an) h rfl ?_
      refine st_in (b := p) (v := .int .i64 s.bn) h rfl ?_
      refine st_in (b := p) (v := .int .i64 s.an) h rfl ?_
      try simp only [↓o_nil, ↓o_field, ↓o_add, ↓o_sub, ↓o_mul, ↓o_lss, ↓o_leq, ↓o_gtr, ↓o_geq, ↓o_not, ↓o_pick, ↓o_eqInt, ↓o_neInt, ↓o_eqBool, ↓o_neBool, ↓o_eqPtr, ↓o_nePtr, ↓o_eqPtr', ↓o_eqSl, ↓o_neSl, ↓o_eqStr, ↓o_neStr, ↓o_len, ↓o_lenS, ↓o_min, ↓o_max, ↓o_extract, ↓o_convInt, ↓cd_true, ↓cd_false, ↓gate_tt, ↓gate_ff, ↓gate_tf, ↓gate_ft, ↓gate_undef, ↓o_bind, ↓stay_v, ↓pop_cons, ↓fin_nil, Option.isNone_none, Option.isNone_some, Bool.not_true, Bool.not_false, Nat.zero_add, decide_true, decide_false, if_true, if_false, Bool.false_eq_true, ↓reduceIte]
      rw [neq36 (links_length _ ok.b) ok.a]
      by_cases hx : links s.bh (s.l.take (s.an - s.bn).toNat) = s.ah
      · have e : verifyS s = 0 := by unfold verifyS; rw [if_neg]; rintro (⟨_, h2⟩ | h2); exact h2 hx; exact h2 hr
        rw [e] at k
        rw [show (!(links s.bh (s.l.take (s.an - s.bn).toNat) == s.ah)) = false by simp [hx]]
        try simp only [↓o_nil, ↓o_field, ↓o_add, ↓o_sub, ↓o_mul, ↓o_lss, ↓o_leq, ↓o_gtr, ↓o_geq, ↓o_not, ↓o_pick, ↓o_eqInt, ↓o_neInt, ↓o_eqBool, ↓o_neBool, ↓o_eqPtr, ↓o_nePtr, ↓o_eqPtr', ↓o_eqSl, ↓o_neSl, ↓o_eqStr, ↓o_neStr, ↓o_len, ↓o_lenS, ↓o_min, ↓o_max, ↓o_extract, ↓o_convInt, ↓cd_true, ↓cd_false, ↓gate_tt, ↓gate_ff, ↓gate_tf, ↓gate_ft, ↓gate_undef, ↓o_bind, ↓stay_v, ↓pop_cons, ↓fin_nil, Option.isNone_none, Option.isNone_some, Bool.not_true, Bool.not_false, Nat.zero_add, decide_true, decide_false, if_true, if_false, Bool.false_eq_true, ↓reduceIte]
        exact k _ h
      · have e : verifyS s = 15 := by unfold verifyS; rw [if_pos (.inl ⟨hb, hx⟩)]
        rw [e] at k
        rw [show (!(links s.bh (s.l.take (s.an - s.bn).toNat) == s.ah)) = true by simp [hx]]
        try simp only [↓o_nil, ↓o_field, ↓o_add, ↓o_sub, ↓o_mul, ↓o_lss, ↓o_leq, ↓o_gtr, ↓o_geq, ↓o_not, ↓o_pick, ↓o_eqInt, ↓o_neInt, ↓o_eqBool, ↓o_neBool, ↓o_eqPtr, ↓o_nePtr, ↓o_eqPtr', ↓o_eqSl, ↓o_neSl, ↓o_eqStr, ↓o_neStr, ↓o_len, ↓o_lenS, ↓o_min, ↓o_max, ↓o_extract, ↓o_convInt, ↓cd_true, ↓cd_false, ↓gate_tt, ↓gate_ff, ↓gate_tf, ↓gate_ft, ↓gate_undef, ↓o_bind, ↓stay_v, ↓pop_cons, ↓fin_nil, Option.isNone_none, Option.isNone_some, Bool.not_true, Bool.not_false, Nat.zero_add, decide_true, decide_false, if_true, if_false, Bool.false_eq_true, ↓reduceIte]
        exact k _ h
    · have e : verifyS s = 0 := by unfold verifyS; rw [if_neg]; rintro (⟨h2, _⟩ | h2); exact hb h2; exact h2 hr
      rw [e] at k
      simp only [hb, ↓o_nil, ↓o_field, ↓o_add, ↓o_sub, ↓o_mul, ↓o_lss, ↓o_leq, ↓o_gtr, ↓o_geq, ↓o_not, ↓o_pick, ↓o_eqInt, ↓o_neInt, ↓o_eqBool, ↓o_neBool, ↓o_eqPtr, ↓o_nePtr, ↓o_eqPtr', ↓o_eqSl, ↓o_neSl, ↓o_eqStr, ↓o_neStr, ↓o_len, ↓o_lenS, ↓o_min, ↓o_max, ↓o_extract, ↓o_convInt, ↓cd_true, ↓cd_false, ↓gate_tt, ↓gate_ff, ↓gate_tf, ↓gate_ft, ↓gate_undef, ↓o_bind, ↓stay_v, ↓pop_cons, ↓fin_nil, Option.isNone_none, Option.isNone_some, Bool.not_true, Bool.not_false, Nat.zero_add, decide_true, decide_false, if_true, if_false, Bool.false_eq_true, ↓reduceIte]
      exact k _ h
  · have e : verifyS s = 15 := by unfold verifyS; rw [if_pos (.inr hr)]
    rw [e] at k
    rw [show (!(links s.bh s.l == s.hd)) = true by simp [hr]]
    rw [cd_true]
    exact k _ h
end Go.Proofs.YtjeiojibnmfibaaDoor

/-
  The reference's chain: adding, letting go; a deed on both.
-/
set_option linter.all false
set_option maxRecDepth 10000
namespace Go.Proofs.YtjeiojibnmfibaaDoor
open Go Hold
variable {E : World0} {w : World} {H R X : HP} {K : Value → World → Prop}
theorem RAdd_spec {p m : Nat} {s : Ch} {v : Value} {t : Int} {a b : List UInt8} (ok : Ok s m) (hm : m ≤ 1000000000000) (h : sat E w (chR p s v R))
    (k : ∀ v' w', sat E w' (chR p (addS s t a b).1 v' R) → K (.tuple #[ev (addS s t a b).2.1, .int .i64 (addS s t a b).2.2]) w') : Calls prog 26 #[.pointer (some ⟨p, 0, none⟩), .int .i64 t, tv a, tv b] w (Ret K) := by
  have := ok.few; have := ok.top; have := ok.b0
  obtain ⟨va, vc, rfl, hc, hv, _⟩ := (rds_evsR (s := s)).shape h
  refine c26 ?_
  unfold B26
  refine alloc_sl h fun b0 w h => ?_
  have h : sat E w (pts b0 (.cells (ecells zeroE).toArray 34 (0, 0)) * chR p s (.slice va s.l.length vc) R) := h
  simp only [↓o_eqPtr, Option.isNone_some, ↓cd_false]
  rw [o_lss]
  by_cases h1 : t < 0
  · have e : addS s t a b = (s, zeroE, 2) := by unfold addS; rw [if_pos (.inl h1)]
    simp only [h1, ↓o_nil, ↓o_field, ↓o_add, ↓o_sub, ↓o_mul, ↓o_lss, ↓o_leq, ↓o_gtr, ↓o_geq, ↓o_not, ↓o_pick, ↓o_eqInt, ↓o_neInt, ↓o_eqBool, ↓o_neBool, ↓o_eqPtr, ↓o_nePtr, ↓o_eqPtr', ↓o_eqSl, ↓o_neSl, ↓o_eqStr, ↓o_neStr, ↓o_len, ↓o_lenS, ↓o_min, ↓o_max, ↓o_extract, ↓o_convInt, ↓cd_true, ↓cd_false, ↓gate_tt, ↓gate_ff, ↓gate_tf, ↓gate_ft, ↓gate_undef, ↓o_bind, ↓stay_v, ↓pop_cons, ↓fin_nil, Option.isNone_none, Option.isNone_some, Bool.not_true, Bool.not_false, Nat.zero_add, decide_true, decide_false, if_true, if_false, Bool.false_eq_true, ↓reduceIte]
    refine zeroE_build ?_
    exact evt_ret (b := b0) (x := zeroE) h fun w h => by rw [e] at k; exact k _ _ h.drop
  simp only [h1, ↓o_nil, ↓o_field, ↓o_add, ↓o_sub, ↓o_mul, ↓o_lss, ↓o_leq, ↓o_gtr, ↓o_geq, ↓o_not, ↓o_pick, ↓o_eqInt, ↓o_neInt, ↓o_eqBool, ↓o_neBool, ↓o_eqPtr, ↓o_nePtr, ↓o_eqPtr', ↓o_eqSl, ↓o_neSl, ↓o_eqStr, ↓o_neStr, ↓o_len, ↓o_lenS, ↓o_min, ↓o_max, ↓o_extract, ↓o_convInt, ↓cd_true, ↓cd_false, ↓gate_tt, ↓gate_ff, ↓gate_tf, ↓gate_ft, ↓gate_undef, ↓o_bind, ↓stay_v, ↓pop_cons, ↓fin_nil, Option.isNone_none, Option.isNone_some, Bool.not_true, Bool.not_false, Nat.zero_add, decide_true, decide_false, if_true, if_false, Bool.false_eq_true, ↓reduceIte]
  by_cases h2 : 1099511627776 < t
  · have e : addS s t a b = (s, zeroE, 2) := by unfold addS; rw [if_pos (.inr h2)]
    simp only [h2, ↓o_nil, ↓o_field, ↓o_add, ↓o_sub, ↓o_mul, ↓o_lss, ↓o_leq, ↓o_gtr, ↓o_geq, ↓o_not, ↓o_pick, ↓o_eqInt, ↓o_neInt, ↓o_eqBool, ↓o_neBool, ↓o_eqPtr, ↓o_nePtr, ↓o_eqPtr', ↓o_eqSl, ↓o_neSl, ↓o_eqStr, ↓o_neStr, ↓o_len, ↓o_lenS, ↓o_min, ↓o_max, ↓o_extract, ↓o_convInt, ↓cd_true, ↓cd_false, ↓gate_tt, ↓gate_ff, ↓gate_tf, ↓gate_ft, ↓gate_undef, ↓o_bind, ↓stay_v, ↓pop_cons, ↓fin_nil, Option.isNone_none, Option.isNone_some, Bool.not_true, Bool.not_false, Nat.zero_add, decide_true, decide_false, if_true, if_false, Bool.false_eq_true, ↓reduceIte]
    refine zeroE_build ?_
    exact evt_ret (b := b0) (x := zeroE) h fun w h => by rw [e] at k; exact k _ _ h.drop
  have n1 : ¬ (t < 0 ∨ 1099511627776 < t) := by omega
  simp only [h2, ↓o_nil, ↓o_field, ↓o_add, ↓o_sub, ↓o_mul, ↓o_lss, ↓o_leq, ↓o_gtr, ↓o_geq, ↓o_not, ↓o_pick, ↓o_eqInt, ↓o_neInt, ↓o_eqBool, ↓o_neBool, ↓o_eqPtr, ↓o_nePtr, ↓o_eqPtr', ↓o_eqSl, ↓o_neSl, ↓o_eqStr, ↓o_neStr, ↓o_len, ↓o_lenS, ↓o_min, ↓o_max, ↓o_extract, ↓o_convInt, ↓cd_true, ↓cd_false, ↓gate_tt, ↓gate_ff, ↓gate_tf, ↓gate_ft, ↓gate_undef, ↓o_bind, ↓stay_v, ↓pop_cons, ↓fin_nil, Option.isNone_none, Option.isNone_some, Bool.not_true, Bool.not_false, Nat.zero_add, decide_true, decide_false, if_true, if_false, Bool.false_eq_true, ↓reduceIte]
  rw [o_lenT, o_gtr]
  by_cases h3 : (12 : Int) < a.length
  · have e : addS s t a b = (s, zeroE, 6) := by unfold addS; rw [if_neg n1, if_pos (.inl (by omega))]
    simp only [h3, ↓o_nil, ↓o_field, ↓o_add, ↓o_sub, ↓o_mul, ↓o_lss, ↓o_leq, ↓o_gtr, ↓o_geq, ↓o_not, ↓o_pick, ↓o_eqInt, ↓o_neInt, ↓o_eqBool, ↓o_neBool, ↓o_eqPtr, ↓o_nePtr, ↓o_eqPtr', ↓o_eqSl, ↓o_neSl, ↓o_eqStr, ↓o_neStr, ↓o_len, ↓o_lenS, ↓o_min, ↓o_max, ↓o_extract, ↓o_convInt, ↓cd_true, ↓cd_false, ↓gate_tt, ↓gate_ff, ↓gate_tf, ↓gate_ft, ↓gate_undef, ↓o_bind, ↓stay_v, ↓pop_cons, ↓fin_nil, Option.isNone_none, Option.isNone_some, Bool.not_true, Bool.not_false, Nat.zero_add, decide_true, decide_false, if_true, if_false, Bool.false_eq_true, ↓reduceIte]
    refine zeroE_build ?_
    exact evt_ret (b := b0) (x := zeroE) h fun w h => by rw [e] at k; exact k _ _ h.drop
  simp only [h3, ↓o_nil, ↓o_field, ↓o_add, ↓o_sub, ↓o_mul, ↓o_lss, ↓o_leq, ↓o_gtr, ↓o_geq, ↓o_not, ↓o_pick, ↓o_eqInt, ↓o_neInt, ↓o_eqBool, ↓o_neBool, ↓o_eqPtr, ↓o_nePtr, ↓o_eqPtr', ↓o_eqSl, ↓o_neSl, ↓o_eqStr, ↓o_neStr, ↓o_len, ↓o_lenS, ↓o_min, ↓o_max, ↓o_extract, ↓o_convInt, ↓cd_true, ↓cd_false, ↓gate_tt, ↓gate_ff, ↓gate_tf, ↓gate_ft, ↓gate_undef, ↓o_bind, ↓stay_v, ↓pop_cons, ↓fin_nil, Option.isNone_none, Option.isNone_some, Bool.not_true, Bool.not_false, Nat.zero_add, decide_true, decide_false, if_true, if_false, Bool.false_eq_true, ↓reduceIte]
  rw [o_lenT, o_gtr]
  by_cases h4 : (30 : Int) < b.length
  · have e : addS s t a b = (s, zeroE, 6) := by unfold addS; rw [if_neg n1, if_pos (.inr (by omega))]
    simp only [h4, ↓o_nil, ↓o_field, ↓o_add, ↓o_sub, ↓o_mul, ↓o_lss, ↓o_leq, ↓o_gtr, ↓o_geq, ↓o_not, ↓o_pick, ↓o_eqInt, ↓o_neInt, ↓o_eqBool, ↓o_neBool, ↓o_eqPtr, ↓o_nePtr, ↓o_eqPtr', ↓o_eqSl, ↓o_neSl, ↓o_eqStr, ↓o_neStr, ↓o_len, ↓o_lenS, ↓o_min, ↓o_max, ↓o_extract, ↓o_convInt, ↓cd_true, ↓cd_false, ↓gate_tt, ↓gate_ff, ↓gate_tf, ↓gate_ft, ↓gate_undef, ↓o_bind, ↓stay_v, ↓pop_cons, ↓fin_nil, Option.isNone_none, Option.isNone_some, Bool.not_true, Bool.not_false, Nat.zero_add, decide_true, decide_false, if_true, if_false, Bool.false_eq_true, ↓reduceIte]
    refine zeroE_build ?_
    exact evt_ret (b := b0) (x := zeroE) h fun w h => by rw [e] at k; exact k _ _ h.drop
  have n2 : ¬ (12 < a.length ∨ 30 < b.length) := by omega
  simp only [h4, ↓o_nil, ↓o_field, ↓o_add, ↓o_sub, ↓o_mul, ↓o_lss, ↓o_leq, ↓o_gtr, ↓o_geq, ↓o_not, ↓o_pick, ↓o_eqInt, ↓o_neInt, ↓o_eqBool, ↓o_neBool, ↓o_eqPtr, ↓o_nePtr, ↓o_eqPtr', ↓o_eqSl, ↓o_neSl, ↓o_eqStr, ↓o_neStr, ↓o_len, ↓o_lenS, ↓o_min, ↓o_max, ↓o_extract, ↓o_convInt, ↓cd_true, ↓cd_false, ↓gate_tt, ↓gate_ff, ↓gate_tf, ↓gate_ft, ↓gate_undef, ↓o_bind, ↓stay_v, ↓pop_cons, ↓fin_nil, Option.isNone_none, Option.isNone_some, Bool.not_true, Bool.not_false, Nat.zero_add, decide_true, decide_false, if_true, if_false, Bool.false_eq_true, ↓reduceIte]
  refine ld_in (b := p) (v := .int .i64 s.last) h rfl ?_
  rw [o_lss]
  by_cases h5 : t < s.last
  · have e : addS s t a b = (s, zeroE, 9) := by unfold addS; rw [if_neg n1, if_neg n2, if_pos h5]
    simp only [h5, ↓o_nil, ↓o_field, ↓o_add, ↓o_sub, ↓o_mul, ↓o_lss, ↓o_leq, ↓o_gtr, ↓o_geq, ↓o_not, ↓o_pick, ↓o_eqInt, ↓o_neInt, ↓o_eqBool, ↓o_neBool, ↓o_eqPtr, ↓o_nePtr, ↓o_eqPtr', ↓o_eqSl, ↓o_neSl, ↓o_eqStr, ↓o_neStr, ↓o_len, ↓o_lenS, ↓o_min, ↓o_max, ↓o_extract, ↓o_convInt, ↓cd_true, ↓cd_false, ↓gate_tt, ↓gate_ff, ↓gate_tf, ↓gate_ft, ↓gate_undef, ↓o_bind, ↓stay_v, ↓pop_cons, ↓fin_nil, Option.isNone_none, Option.isNone_some, Bool.not_true, Bool.not_false, Nat.zero_add, decide_true, decide_false, if_true, if_false, Bool.false_eq_true, ↓reduceIte]
    refine zeroE_build ?_
    exact evt_ret (b := b0) (x := zeroE) h fun w h => by rw [e] at k; exact k _ _ h.drop
  simp only [h5, ↓o_nil, ↓o_field, ↓o_add, ↓o_sub, ↓o_mul, ↓o_lss, ↓o_leq, ↓o_gtr, ↓o_geq, ↓o_not, ↓o_pick, ↓o_eqInt, ↓o_neInt, ↓o_eqBool, ↓o_neBool, ↓o_eqPtr, ↓o_nePtr, ↓o_eqPtr', ↓o_eqSl, ↓o_neSl, ↓o_eqStr, ↓o_neStr, ↓o_len, ↓o_lenS, ↓o_min, ↓o_max, ↓o_extract, ↓o_convInt, ↓cd_true, ↓cd_false, ↓gate_tt, ↓gate_ff, ↓gate_tf, ↓gate_ft, ↓gate_undef, ↓o_bind, ↓stay_v, ↓pop_cons, ↓fin_nil, Option.isNone_none, Option.isNone_some, Bool.not_true, Bool.not_false, Nat.zero_add, decide_true, decide_false, if_true, if_false, Bool.false_eq_true, ↓reduceIte]
  refine ld_in (b := p) (v := .slice va s.l.length vc) h (rc_l ok) ?_
  rw [o_len, o_geq]
  by_cases h6 : (64 : Int) ≤ s.l.length
  · have e : addS s t a b = (s, zeroE, 26) := by unfold addS; rw [if_neg n1, if_neg n2, if_neg h5, if_pos (by omega)]
    simp only [h6, ↓o_nil, ↓o_field, ↓o_add, ↓o_sub, ↓o_mul, ↓o_lss, ↓o_leq, ↓o_gtr, ↓o_geq, ↓o_not, ↓o_pick, ↓o_eqInt, ↓o_neInt, ↓o_eqBool, ↓o_neBool, ↓o_eqPtr, ↓o_nePtr, ↓o_eqPtr', ↓o_eqSl, ↓o_neSl, ↓o_eqStr, ↓o_neStr, ↓o_len, ↓o_lenS, ↓o_min, ↓o_max, ↓o_extract, ↓o_convInt, ↓cd_true, ↓cd_false, ↓gate_tt, ↓gate_ff, ↓gate_tf, ↓gate_ft, ↓gate_undef, ↓o_bind, ↓stay_v, ↓pop_cons, ↓fin_nil, Option.isNone_none, Option.isNone_some, Bool.not_true, Bool.not_false, Nat.zero_add, decide_true, decide_false, if_true, if_false, Bool.false_eq_true, ↓reduceIte]
    refine zeroE_build ?_
    exact evt_ret (b := b0) (x := zeroE) h fun w h => by rw [e] at k; exact k _ _ h.drop
  have e : addS s t a b = ({ s with l := s.l ++ [newE s t a b], hd := nx s.hd (newE s t a b), last := t }, newE s t a b, 0) := by unfold addS; rw [if_neg n1, if_neg n2, if_neg h5, if_neg (by omega)]
  rw [e] at k
  simp only [h6, ↓o_nil, ↓o_field, ↓o_add, ↓o_sub, ↓o_mul, ↓o_lss, ↓o_leq, ↓o_gtr, ↓o_geq, ↓o_not, ↓o_pick, ↓o_eqInt, ↓o_neInt, ↓o_eqBool, ↓o_neBool, ↓o_eqPtr, ↓o_nePtr, ↓o_eqPtr', ↓o_eqSl, ↓o_neSl, ↓o_eqStr, ↓o_neStr, ↓o_len, ↓o_lenS, ↓o_min, ↓o_max, ↓o_extract, ↓o_convInt, ↓cd_true, ↓cd_false, ↓gate_tt, ↓gate_ff, ↓gate_tf, ↓gate_ft, ↓gate_undef, ↓o_bind, ↓stay_v, ↓pop_cons, ↓fin_nil, Option.isNone_none, Option.isNone_some, Bool.not_true, Bool.not_false, Nat.zero_add, decide_true, decide_false, if_true, if_false, Bool.false_eq_true, ↓reduceIte]
  refine RCount_spec ok (by omega) h fun w h => ?_
  rw [o_add, i64_of (by omega) (by omega)]
  refine pvv_of (v := ev (newE s t a b)) (fun w => by kernel_rfl) ?_
  generalize hx : newE s t a b = x at k ⊢
  refine alloc_sl h fun b1 w h => ?_
  have h : sat E w (pts b1 (.cells (ecells zeroE).toArray 34 (0, 0)) * (pts b0 (.cells (ecells zeroE).toArray 34 (0, 0)) * chR p s (.slice va s.l.length vc) R)) := h
  refine store_all (b := b1) h (xs := ecells zeroE) (vs := ecells x) rfl rfl (ecells_one x) fun w h => ?_
  try simp only [↓o_nil, ↓o_field, ↓o_add, ↓o_sub, ↓o_mul, ↓o_lss, ↓o_leq, ↓o_gtr, ↓o_geq, ↓o_not, ↓o_pick, ↓o_eqInt, ↓o_neInt, ↓o_eqBool, ↓o_neBool, ↓o_eqPtr, ↓o_nePtr, ↓o_eqPtr', ↓o_eqSl, ↓o_neSl, ↓o_eqStr, ↓o_neStr, ↓o_len, ↓o_lenS, ↓o_min, ↓o_max, ↓o_extract, ↓o_convInt, ↓cd_true, ↓cd_false, ↓gate_tt, ↓gate_ff, ↓gate_tf, ↓gate_ft, ↓gate_undef, ↓o_bind, ↓stay_v, ↓pop_cons, ↓fin_nil, Option.isNone_none, Option.isNone_some, Bool.not_true, Bool.not_false, Nat.zero_add, decide_true, decide_false, if_true, if_false, Bool.false_eq_true, ↓reduceIte]
  refine ld_in (b := p) (v := .slice va s.l.length vc) h (rc_l ok) ?_
  refine append_sl (osl_nil h 34 4) (evs s.l) (evs_length _) (((Rds.under (H1 := pers (immS (.slice va s.l.length vc) s.l.length (evs s.l))) Rds.pers)).win h) (evs_one _) (by omega) (by omega) fun v2 w h => ?_
  refine ld_agg (b := b1) (xs := ecells x) h rfl ?_
  refine buildSlice_sl (e := 34) (cs := (ecells x).toArray) h (fun w => by kernel_rfl) fun b2 w h => ?_
  refine append_sl (v := v2) h (ecells x) (k' := 1) rfl (.inr ⟨b2, 0, _, _, _, rfl, h.pts_get, fun j v hj => by simpa using hj⟩) (ecells_one x) (by omega) (by omega) fun v' w h => ?_
  rw [Nat.zero_add, List.nil_append] at h
  try simp only [↓o_nil, ↓o_field, ↓o_add, ↓o_sub, ↓o_mul, ↓o_lss, ↓o_leq, ↓o_gtr, ↓o_geq, ↓o_not, ↓o_pick, ↓o_eqInt, ↓o_neInt, ↓o_eqBool, ↓o_neBool, ↓o_eqPtr, ↓o_nePtr, ↓o_eqPtr', ↓o_eqSl, ↓o_neSl, ↓o_eqStr, ↓o_neStr, ↓o_len, ↓o_lenS, ↓o_min, ↓o_max, ↓o_extract, ↓o_convInt, ↓cd_true, ↓cd_false, ↓gate_tt, ↓gate_ff, ↓gate_tf, ↓gate_ft, ↓gate_undef, ↓o_bind, ↓stay_v, ↓pop_cons, ↓fin_nil, Option.isNone_none, Option.isNone_some, Bool.not_true, Bool.not_false, Nat.zero_add, decide_true, decide_false, if_true, if_false, Bool.false_eq_true, ↓reduceIte]
  have hone : v'.oneCell' = true := by
    obtain ⟨_, _, rfl, _⟩ := osl_shape h
    rfl
  refine store_sl (b := p) h hone (by rw [rc_length ok]; omega) fun w h => ?_
  rw [rp_l ok (l := s.l ++ [x])] at h
  have ok1 : Ok { s with l := s.l ++ [x] } (m + 1) := ⟨ok.b, ok.a, ok.h, ok.b0, ok.a0, by have := ok.le; simp; omega, by simp; omega, by simp; omega⟩
  refine dr_sl h fun w h _ => ?_
  try simp only [↓o_nil, ↓o_field, ↓o_add, ↓o_sub, ↓o_mul, ↓o_lss, ↓o_leq, ↓o_gtr, ↓o_geq, ↓o_not, ↓o_pick, ↓o_eqInt, ↓o_neInt, ↓o_eqBool, ↓o_neBool, ↓o_eqPtr, ↓o_nePtr, ↓o_eqPtr', ↓o_eqSl, ↓o_neSl, ↓o_eqStr, ↓o_neStr, ↓o_len, ↓o_lenS, ↓o_min, ↓o_max, ↓o_extract, ↓o_convInt, ↓cd_true, ↓cd_false, ↓gate_tt, ↓gate_ff, ↓gate_tf, ↓gate_ft, ↓gate_undef, ↓o_bind, ↓stay_v, ↓pop_cons, ↓fin_nil, Option.isNone_none, Option.isNone_some, Bool.not_true, Bool.not_false, Nat.zero_add, decide_true, decide_false, if_true, if_false, Bool.false_eq_true, ↓reduceIte]
  refine ld_part (b := p) h (s.hd.map bv) (by simp [ok.h]) (rc_hd ok1) ?_
  refine ld_agg (b := b1) (xs := ecells x) h rfl ?_
  refine Bytes_spec h fun vb w h => ?_
  refine st_part (b := p) h (s.hd.map bv) (by simp [ok.h]) (rc_hd ok1) ?_
  refine RChainE_spec h ok.h Rds.osl.left fun w h => ?_
  have h := h.drop
  refine st_agg (b := b1) (xs := ecells x) h rfl ?_
  try simp only [↓o_nil, ↓o_field, ↓o_add, ↓o_sub, ↓o_mul, ↓o_lss, ↓o_leq, ↓o_gtr, ↓o_geq, ↓o_not, ↓o_pick, ↓o_eqInt, ↓o_neInt, ↓o_eqBool, ↓o_neBool, ↓o_eqPtr, ↓o_nePtr, ↓o_eqPtr', ↓o_eqSl, ↓o_neSl, ↓o_eqStr, ↓o_neStr, ↓o_len, ↓o_lenS, ↓o_min, ↓o_max, ↓o_extract, ↓o_convInt, ↓cd_true, ↓cd_false, ↓gate_tt, ↓gate_ff, ↓gate_tf, ↓gate_ft, ↓gate_undef, ↓o_bind, ↓stay_v, ↓pop_cons, ↓fin_nil, Option.isNone_none, Option.isNone_some, Bool.not_true, Bool.not_false, Nat.zero_add, decide_true, decide_false, if_true, if_false, Bool.false_eq_true, ↓reduceIte]
  refine store_part (b := p) h (rcells { s with l := s.l ++ [x], hd := nx s.hd x } v') (vs := (nx s.hd x).map bv) (by simp [nx_length]) (bv_one _) (by rw [rc_length ok1]; omega) (rp_hd ok1) fun w h => ?_
  have ok2 : Ok { s with l := s.l ++ [x], hd := nx s.hd x } (m + 1) := ⟨ok.b, ok.a, nx_length _ _, ok.b0, ok.a0, ok1.le, ok1.top, ok1.few⟩
  refine store_sl (b := p) h rfl (by rw [rc_length ok2]; omega) fun w h => ?_
  have h : sat E w (pts p (.cells (rcells { s with l := s.l ++ [x], hd := nx s.hd x, last := t } v').toArray 61 (0, 0)) * _) := h
  refine ld_agg (b := b1) (xs := ecells x) h rfl ?_
  refine evt_ret (b := b0) (x := zeroE) (y := x) h fun w h => k v' w ?_
  have h := (((h.lose b0).lose b1).lose b2)
  have h : sat E w (osl 34 4 v' (s.l.length + 1) (evs s.l ++ ecells x) * (pers (immS (.slice va s.l.length vc) s.l.length (evs s.l)) * (pts p (.cells (rcells { s with l := s.l ++ [x], hd := nx s.hd x, last := t } v').toArray 61 (0, 0)) * R))) := h.perm (by ac_rfl)
  have h := osl_freeze h
  have e9 : evs s.l ++ ecells x = evs (s.l ++ [x]) := by rw [evs_append]; simp [evs]
  rw [e9] at h
  have h := h.perm (show _ = pers (immS (.slice va s.l.length vc) s.l.length (evs s.l)) * (pts p (.cells (rcells { s with l := s.l ++ [x], hd := nx s.hd x, last := t } v').toArray 61 (0, 0)) * (pers (immS v' (s.l.length + 1) (evs (s.l ++ [x]))) * R)) by ac_rfl)
  have h := h.drop
  simpa [chR] using h
theorem RPrune_spec {p m : Nat} {s : Ch} {v : Value} {n : Int} (ok : Ok s m) (hm : m ≤ 1000000000000) (h : sat E w (chR p s v R))
    (k : ∀ v' w', sat E w' (chR p (pruneS s n).1 v' R) → K (.tuple #[.int .i64 (pruneS s n).2.1, .int .i64 (pruneS s n).2.2]) w') : Calls prog 28 #[.pointer (some ⟨p, 0, none⟩), .int .i64 n] w (Ret K) := by
  have := ok.few; have := ok.top; have := ok.b0; have := ok.le
  obtain ⟨va, vc, rfl, hc, hv, _⟩ := (rds_evsR (s := s)).shape h
  refine c28 ?_
  unfold B28
  simp only [↓o_eqPtr, Option.isNone_some, ↓cd_false]
  rw [o_nil, o_field]
  refine ld_in (b := p) (v := .int .i64 s.an) h rfl ?_
  rw [o_gtr]
  by_cases h1 : s.an < n
  · have e : pruneS s n = (s, 0, 2) := by unfold pruneS; rw [if_pos (.inl h1)]
    rw [e] at k
    simp only [h1, ↓o_nil, ↓o_field, ↓o_add, ↓o_sub, ↓o_mul, ↓o_lss, ↓o_leq, ↓o_gtr, ↓o_geq, ↓o_not, ↓o_pick, ↓o_eqInt, ↓o_neInt, ↓o_eqBool, ↓o_neBool, ↓o_eqPtr, ↓o_nePtr, ↓o_eqPtr', ↓o_eqSl, ↓o_neSl, ↓o_eqStr, ↓o_neStr, ↓o_len, ↓o_lenS, ↓o_min, ↓o_max, ↓o_extract, ↓o_convInt, ↓cd_true, ↓cd_false, ↓gate_tt, ↓gate_ff, ↓gate_tf, ↓gate_ft, ↓gate_undef, ↓o_bind, ↓stay_v, ↓pop_cons, ↓fin_nil, Option.isNone_none, Option.isNone_some, Bool.not_true, Bool.not_false, Nat.zero_add, decide_true, decide_false, if_true, if_false, Bool.false_eq_true, ↓reduceIte]
    exact k _ _ h
  simp only [h1, ↓o_nil, ↓o_field, ↓o_add, ↓o_sub, ↓o_mul, ↓o_lss, ↓o_leq, ↓o_gtr, ↓o_geq, ↓o_not, ↓o_pick, ↓o_eqInt, ↓o_neInt, ↓o_eqBool, ↓o_neBool, ↓o_eqPtr, ↓o_nePtr, ↓o_eqPtr', ↓o_eqSl, ↓o_neSl, ↓o_eqStr, ↓o_neStr, ↓o_len, ↓o_lenS, ↓o_min, ↓o_max, ↓o_extract, ↓o_convInt, ↓cd_true, ↓cd_false, ↓gate_tt, ↓gate_ff, ↓gate_tf, ↓gate_ft, ↓gate_undef, ↓o_bind, ↓stay_v, ↓pop_cons, ↓fin_nil, Option.isNone_none, Option.isNone_some, Bool.not_true, Bool.not_false, Nat.zero_add, decide_true, decide_false, if_true, if_false, Bool.false_eq_true, ↓reduceIte]
  refine ld_in (b := p) (v := .int .i64 s.bn) h rfl ?_
  try simp only [↓o_nil, ↓o_field, ↓o_add, ↓o_sub, ↓o_mul, ↓o_lss, ↓o_leq, ↓o_gtr, ↓o_geq, ↓o_not, ↓o_pick, ↓o_eqInt, ↓o_neInt, ↓o_eqBool, ↓o_neBool, ↓o_eqPtr, ↓o_nePtr, ↓o_eqPtr', ↓o_eqSl, ↓o_neSl, ↓o_eqStr, ↓o_neStr, ↓o_len, ↓o_lenS, ↓o_min, ↓o_max, ↓o_extract, ↓o_convInt, ↓cd_true, ↓cd_false, ↓gate_tt, ↓gate_ff, ↓gate_tf, ↓gate_ft, ↓gate_undef, ↓o_bind, ↓stay_v, ↓pop_cons, ↓fin_nil, Option.isNone_none, Option.isNone_some, Bool.not_true, Bool.not_false, Nat.zero_add, decide_true, decide_false, if_true, if_false, Bool.false_eq_true, ↓reduceIte]
  by_cases h2 : n < s.bn
  · have e : pruneS s n = (s, 0, 2) := by unfold pruneS; rw [if_pos (.inr h2)]
    rw [e] at k
    simp only [h2, ↓o_nil, ↓o_field, ↓o_add, ↓o_sub, ↓o_mul, ↓o_lss, ↓o_leq, ↓o_gtr, ↓o_geq, ↓o_not, ↓o_pick, ↓o_eqInt, ↓o_neInt, ↓o_eqBool, ↓o_neBool, ↓o_eqPtr, ↓o_nePtr, ↓o_eqPtr', ↓o_eqSl, ↓o_neSl, ↓o_eqStr, ↓o_neStr, ↓o_len, ↓o_lenS, ↓o_min, ↓o_max, ↓o_extract, ↓o_convInt, ↓cd_true, ↓cd_false, ↓gate_tt, ↓gate_ff, ↓gate_tf, ↓gate_ft, ↓gate_undef, ↓o_bind, ↓stay_v, ↓pop_cons, ↓fin_nil, Option.isNone_none, Option.isNone_some, Bool.not_true, Bool.not_false, Nat.zero_add, decide_true, decide_false, if_true, if_false, Bool.false_eq_true, ↓reduceIte]
    exact k _ _ h
  simp only [h2, ↓o_nil, ↓o_field, ↓o_add, ↓o_sub, ↓o_mul, ↓o_lss, ↓o_leq, ↓o_gtr, ↓o_geq, ↓o_not, ↓o_pick, ↓o_eqInt, ↓o_neInt, ↓o_eqBool, ↓o_neBool, ↓o_eqPtr, ↓o_nePtr, ↓o_eqPtr', ↓o_eqSl, ↓o_neSl, ↓o_eqStr, ↓o_neStr, ↓o_len, ↓o_lenS, ↓o_min, ↓o_max, ↓o_extract, ↓o_convInt, ↓cd_true, ↓cd_false, ↓gate_tt, ↓gate_ff, ↓gate_tf, ↓gate_ft, ↓gate_undef, ↓o_bind, ↓stay_v, ↓pop_cons, ↓fin_nil, Option.isNone_none, Option.isNone_some, Bool.not_true, Bool.not_false, Nat.zero_add, decide_true, decide_false, if_true, if_false, Bool.false_eq_true, ↓reduceIte]
  obtain ⟨kk, hkk⟩ : ∃ kk : Nat, n = s.bn + kk := ⟨(n - s.bn).toNat, by omega⟩
  have e : pruneS s n = ({ s with bn := n, bh := links s.bh (s.l.take kk), l := s.l.drop kk }, (kk : Int), 0) := by
    unfold pruneS; rw [if_neg (by omega), show (n - s.bn).toNat = kk by omega, show n - s.bn = (kk : Int) by omega]
  rw [e] at k
  refine ld_in (b := p) (v := .int .i64 s.bn) h rfl ?_
  try simp only [↓o_nil, ↓o_field, ↓o_add, ↓o_sub, ↓o_mul, ↓o_lss, ↓o_leq, ↓o_gtr, ↓o_geq, ↓o_not, ↓o_pick, ↓o_eqInt, ↓o_neInt, ↓o_eqBool, ↓o_neBool, ↓o_eqPtr, ↓o_nePtr, ↓o_eqPtr', ↓o_eqSl, ↓o_neSl, ↓o_eqStr, ↓o_neStr, ↓o_len, ↓o_lenS, ↓o_min, ↓o_max, ↓o_extract, ↓o_convInt, ↓cd_true, ↓cd_false, ↓gate_tt, ↓gate_ff, ↓gate_tf, ↓gate_ft, ↓gate_undef, ↓o_bind, ↓stay_v, ↓pop_cons, ↓fin_nil, Option.isNone_none, Option.isNone_some, Bool.not_true, Bool.not_false, Nat.zero_add, decide_true, decide_false, if_true, if_false, Bool.false_eq_true, ↓reduceIte]
  have t3 : IntKind.i64.wrap (n - s.bn) = (kk : Int) := by rw [i64_of (by omega) (by omega)]; omega
  rw [t3]
  refine At_spec ok (kk := kk) (by omega) h fun w h => ?_
  refine store_part (b := p) h (rcells { s with bh := links s.bh (s.l.take kk) } (.slice va s.l.length vc)) (vs := (links s.bh (s.l.take kk)).map bv) (by simp [links_length _ ok.b]) (bv_one _) (by rw [rc_length ok]; omega) (rp_bh ok) fun w h => ?_
  have ok1 : Ok { s with bh := links s.bh (s.l.take kk) } m := ⟨links_length _ ok.b, ok.a, ok.h, ok.b0, ok.a0, ok.le, ok.top, ok.few⟩
  refine store_sl (b := p) h rfl (by rw [rc_length ok1]; omega) fun w h => ?_
  have h : sat E w (pts p (.cells (rcells { s with bn := n, bh := links s.bh (s.l.take kk) } (.slice va s.l.length vc)).toArray 61 (0, 0)) * _) := h
  have ok2 : Ok { s with bn := n, bh := links s.bh (s.l.take kk) } (m + s.l.length) := ⟨links_length _ ok.b, ok.a, ok.h, by simp only; omega, ok.a0, by simp only; omega, by simp only; omega, ok.few⟩
  refine ld_in (b := p) (v := .slice va s.l.length vc) h (rc_l ok2) ?_
  rw [o_slice_l (by omega) (by omega)]
  simp only [Int.toNat_natCast]
  have hcut : Rds (pers (immS (.slice va s.l.length vc) s.l.length (evs s.l))) (.slice (cutA va vc kk 4) (s.l.length - kk) (vc - kk)) (s.l.length - kk) (evs (s.l.drop kk)) := by
    intro E w hs
    obtain ⟨a', c', e', hc', hw'⟩ := Rds.pers E w hs
    cases e'
    refine ⟨_, _, rfl, by omega, ?_⟩
    rw [← evs_drop]
    exact win_cut hw' fun hcn => by rw [evs_length]; omega
  refine append_sl (osl_nil h 34 4) (evs (s.l.drop kk)) (k' := s.l.length - kk) (by rw [evs_length, List.length_drop]) ((Rds.under hcut).win h) (evs_one _) (by omega) (by omega) fun v' w h => ?_
  rw [Nat.zero_add, List.nil_append] at h
  try simp only [↓o_nil, ↓o_field, ↓o_add, ↓o_sub, ↓o_mul, ↓o_lss, ↓o_leq, ↓o_gtr, ↓o_geq, ↓o_not, ↓o_pick, ↓o_eqInt, ↓o_neInt, ↓o_eqBool, ↓o_neBool, ↓o_eqPtr, ↓o_nePtr, ↓o_eqPtr', ↓o_eqSl, ↓o_neSl, ↓o_eqStr, ↓o_neStr, ↓o_len, ↓o_lenS, ↓o_min, ↓o_max, ↓o_extract, ↓o_convInt, ↓cd_true, ↓cd_false, ↓gate_tt, ↓gate_ff, ↓gate_tf, ↓gate_ft, ↓gate_undef, ↓o_bind, ↓stay_v, ↓pop_cons, ↓fin_nil, Option.isNone_none, Option.isNone_some, Bool.not_true, Bool.not_false, Nat.zero_add, decide_true, decide_false, if_true, if_false, Bool.false_eq_true, ↓reduceIte]
  have hone : v'.oneCell' = true := by
    obtain ⟨_, _, rfl, _⟩ := osl_shape h
    rfl
  refine store_sl (b := p) h hone (by rw [rc_length ok2]; omega) fun w h => ?_
  rw [rp_l ok2 (l := s.l.drop kk)] at h
  refine k v' w ?_
  have h := h.perm (show _ = osl 34 4 v' (s.l.length - kk) (evs (s.l.drop kk)) * (pers (immS (.slice va s.l.length vc) s.l.length (evs s.l)) * (pts p (.cells (rcells { s with bn := n, bh := links s.bh (s.l.take kk), l := s.l.drop kk } v').toArray 61 (0, 0)) * R)) by ac_rfl)
  have h := osl_freeze h
  have h := h.perm (show _ = pers (immS (.slice va s.l.length vc) s.l.length (evs s.l)) * (pts p (.cells (rcells { s with bn := n, bh := links s.bh (s.l.take kk), l := s.l.drop kk } v').toArray 61 (0, 0)) * (pers (immS v' (s.l.length - kk) (evs (s.l.drop kk))) * R)) by ac_rfl)
  have h := h.drop
  simpa [chR] using h
end Go.Proofs.YtjeiojibnmfibaaDoor
