/-
  AuditPlays: the walk.
-/
import Derived.Test.YtjeiojibnmfibaaDoorAudN
set_option linter.all false
set_option maxRecDepth 100000
namespace Go.Proofs.YtjeiojibnmfibaaDoor.Plays
open Go Hold Go.ChangeShapes Go.WideShapes Go.ChangeAt Go.RowKit
variable {E : World0} {w : World} {H R : HP} {K : Value → World → Prop}
theorem Plays_spec (h : sat E w H) (hd : Dbt H) {v : Value} (l : List Deed) (hl : Rds H v l.length (l.flatMap dcells)) (ml : l.length ≤ 9223372036854775807)
    (k : ∀ w', sat E w' H → K (.bool true) w') : Calls prog 6 #[v] w (Ret K) := by
  obtain ⟨va, vc, rfl, hvc, hl, _⟩ := hl.shape h
  refine c6 ?_
  unfold B6
  refine New_spec h fun p w h => ?_
  refine RNew_spec h fun q w h => ?_
  have h := swapRI h
  refine live_spec h hd.up fun w h => ?_
  simp only [↓o_not, Bool.not_true, ↓cd_false]
  refine Fork_spec ok_new h fun f v3 w h => ?_
  have h : sat E w (chR q newS (.slice none 0 0) (chI f newS v3 (chI p newS (.slice none 0 0) H))) := by
    unfold chI chR at h ⊢
    exact h.perm (by ac_rfl)
  refine RFork_spec ok_new h fun g w h => ?_
  have h : sat E w (chI p newS (.slice none 0 0) (chR q newS (.slice none 0 0) (chI f newS v3 (chR g newS (.slice none 0 0) H)))) := by
    unfold chI chR at h ⊢
    exact h.perm (by ac_rfl)
  refine lp_nat (fun r σ w => ∃ (i : Nat) (s t : Ch) (f g : Nat) (v1 v2 v3 v4 : Value), σ = [.pointer (some ⟨f, 0, none⟩), .pointer (some ⟨g, 0, none⟩), .int .i64 (i : Int)] ∧ r = 100 - i ∧ i ≤ 100 ∧ Ok s i ∧ Risen s ∧ Ok t i ∧ Risen t ∧ sat E w (chI p s v1 (chR q s v2 (chI f t v3 (chR g t v4 H))))) 100
    ⟨0, newS, newS, f, g, _, _, _, _, rfl, rfl, by omega, ok_new, inv_new, ok_new, inv_new, h⟩ ?_
  clear h
  rintro r σ w again ⟨i, s, t, f, g, v1, v2, v3, v4, rfl, rfl, hi, ok, inv, okt, invt, h⟩ hag
  have up : ∀ {s : Ch}, Ok s i → Ok s (i + 1) := fun ok => ⟨ok.b, ok.a, ok.h, ok.b0, ok.a0, ok.le, by have := ok.top; omega, ok.few⟩
  rw [pop_cons, pop_cons, pop_cons, fin_nil, o_len, two_tests]
  refine cd_dec (fun hlt => ?_) (fun hge => ?_)
  · obtain ⟨hlt1, hlt2⟩ := hlt
    have hi2 : i < l.length := by omega
    refine jn_cut (fun σ w => ∃ (t : Ch) (f g : Nat) (v3 v4 : Value), σ = [.pointer (some ⟨f, 0, none⟩), .pointer (some ⟨g, 0, none⟩)] ∧ Ok t i ∧ Risen t ∧ sat E w (chI p s v1 (chR q s v2 (chI f t v3 (chR g t v4 H))))) (fun kj hkj => ?_) ?_
    · rw [o_len, o_quo (by decide)]
      have e2 : (l.length : Int).tdiv 2 = ((l.length / 2 : Nat) : Int) := by rw [Int.tdiv_eq_ediv_of_nonneg (by omega)]; omega
      rw [e2, i64_of (by omega) (by omega), o_eqInt]
      refine cd_dec (fun heq => ?_) (fun hne => ?_)
      · refine Fork_spec ok h fun f2 v5 w h => ?_
        have h : sat E w (chR q s v2 (chI f2 s v5 (chI p s v1 (chI f t v3 (chR g t v4 H))))) := by
          unfold chI chR at h ⊢
          exact h.perm (by ac_rfl)
        refine RFork_spec ok h fun g2 w h => ?_
        refine hkj _ _ ⟨s, f2, g2, v5, v2, rfl, ok, inv, ?_⟩
        unfold chI chR at h ⊢
        have h := h.perm (show _ = (pts f (.cells (icells t v3).toArray 59 (0, 0)) * (pers (immS v3 t.l.length (evs t.l)) * (pts g (.cells (rcells t v4).toArray 61 (0, 0)) * pers (immS v4 t.l.length (evs t.l))))) * (pts p (.cells (icells s v1).toArray 59 (0, 0)) * (pers (immS v1 s.l.length (evs s.l)) * (pts q (.cells (rcells s v2).toArray 61 (0, 0)) * (pers (immS v2 s.l.length (evs s.l)) * (pts f2 (.cells (icells s v5).toArray 59 (0, 0)) * (pers (immS v5 s.l.length (evs s.l)) * (pts g2 (.cells (rcells s v2).toArray 61 (0, 0)) * (pers (immS v2 s.l.length (evs s.l)) * H)))))))) by ac_rfl)
        exact h.drop
      · exact hkj _ _ ⟨t, f, g, v3, v4, rfl, okt, invt, h⟩
    · clear h okt invt
      rintro σ w ⟨t, f, g, v3, v4, rfl, okt, invt, h⟩
      rw [pop_cons, pop_cons, fin_nil]
      have h0 : sat E w H := by unfold chI chR at h; exact h.drop.drop.drop.drop.drop.drop.drop.drop
      obtain ⟨b, o, c', e, hc', hrd⟩ := hl.opened h0 (by rw [fm_length (k := 5) (fun _ => rfl)]; omega)
      cases e
      rw [o_index (by omega) (by omega)]
      refine ld_el h (Rds.under hrd) (i * 5) (by simp) (dcells l[i]) rfl (deeds_at (List.getElem?_eq_getElem hi2)) ?_
      refine do_spec ok (by omega) hd.up h fun v' u' w h => ?_
      simp only [↓o_not, Bool.not_true, ↓cd_false]
      rw [o_add, i64_of (by omega) (by omega)]
      exact hag (100 - (i + 1)) _ _ (by omega) ⟨i + 1, doS s l[i], t, f, g, v', u', v3, v4, rfl, rfl, by omega, ok_do ok, inv_do inv, up okt, invt, h⟩
  refine same_spec ok (by omega) inv hd.up h fun w h => ?_
  try simp only [↓o_nil, ↓o_field, ↓o_add, ↓o_sub, ↓o_mul, ↓o_lss, ↓o_leq, ↓o_gtr, ↓o_geq, ↓o_not, ↓o_pick, ↓o_eqInt, ↓o_neInt, ↓o_eqBool, ↓o_neBool, ↓o_eqPtr, ↓o_nePtr, ↓o_eqPtr', ↓o_eqSl, ↓o_neSl, ↓o_eqStr, ↓o_neStr, ↓o_len, ↓o_lenS, ↓o_min, ↓o_max, ↓o_extract, ↓o_convInt, ↓cd_true, ↓cd_false, ↓gate_tt, ↓gate_ff, ↓gate_tf, ↓gate_ft, ↓gate_undef, ↓o_bind, ↓stay_v, ↓pop_cons, ↓fin_nil, Option.isNone_none, Option.isNone_some, Bool.not_true, Bool.not_false, Nat.zero_add, decide_true, decide_false, if_true, if_false, Bool.false_eq_true, ↓reduceIte]
  have h : sat E w (chI f t v3 (chR g t v4 (chI p s v1 (chR q s v2 H)))) := by
    unfold chI chR at h ⊢
    exact h.perm (by ac_rfl)
  refine same_spec okt (by omega) invt hd.up h fun w h => ?_
  try simp only [↓o_nil, ↓o_field, ↓o_add, ↓o_sub, ↓o_mul, ↓o_lss, ↓o_leq, ↓o_gtr, ↓o_geq, ↓o_not, ↓o_pick, ↓o_eqInt, ↓o_neInt, ↓o_eqBool, ↓o_neBool, ↓o_eqPtr, ↓o_nePtr, ↓o_eqPtr', ↓o_eqSl, ↓o_neSl, ↓o_eqStr, ↓o_neStr, ↓o_len, ↓o_lenS, ↓o_min, ↓o_max, ↓o_extract, ↓o_convInt, ↓cd_true, ↓cd_false, ↓gate_tt, ↓gate_ff, ↓gate_tf, ↓gate_ft, ↓gate_undef, ↓o_bind, ↓stay_v, ↓pop_cons, ↓fin_nil, Option.isNone_none, Option.isNone_some, Bool.not_true, Bool.not_false, Nat.zero_add, decide_true, decide_false, if_true, if_false, Bool.false_eq_true, ↓reduceIte]
  refine k w ?_
  unfold chI chR at h
  exact h.drop.drop.drop.drop.drop.drop.drop.drop
end Go.Proofs.YtjeiojibnmfibaaDoor.Plays
