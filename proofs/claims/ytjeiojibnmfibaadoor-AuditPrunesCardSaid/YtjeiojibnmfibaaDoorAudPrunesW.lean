/-
  AuditPrunes: the walk.
-/
import Derived.Test.YtjeiojibnmfibaaDoorAudU
set_option linter.all false
set_option maxRecDepth 100000
namespace Go.Proofs.YtjeiojibnmfibaaDoor.Prunes
open Go Hold Go.ChangeShapes Go.WideShapes Go.ChangeAt Go.RowKit
variable {E : World0} {w : World} {H R : HP} {K : Value → World → Prop}
theorem Prunes_spec (h : sat E w H) (hd : Dbt H) {v : Value} (l : List Deed) (hl : Rds H v l.length (l.flatMap dcells)) (ml : l.length ≤ 9223372036854775807) (n8 : UInt8)
    (k : ∀ w', sat E w' H → K (.bool true) w') : Calls prog 5 #[v, bv n8] w (Ret K) := by
  have t0 : ∀ n : Int, decide (n = n) = true := fun n => decide_eq_true rfl
  obtain ⟨va, vc, rfl, hvc, hl, _⟩ := hl.shape h
  refine c5 ?_
  unfold B5
  refine New_spec h fun p w h => ?_
  refine RNew_spec h fun q w h => ?_
  have h := swapRI h
  refine live_spec h hd.up fun w h => ?_
  simp only [↓o_not, Bool.not_true, ↓cd_false]
  refine lp_nat (fun r σ w => ∃ (i : Nat) (s : Ch) (v1 v2 : Value), σ = [.int .i64 (i : Int)] ∧ r = 60 - i ∧ i ≤ 60 ∧ Ok s i ∧ Risen s ∧ Right s ∧ sat E w (chI p s v1 (chR q s v2 H))) 60 ⟨0, newS, _, _, rfl, rfl, by omega, ok_new, inv_new, right_new, h⟩ ?_
  clear h
  rintro r σ w again ⟨i, s, v1, v2, rfl, rfl, hi, ok, inv, rgt, h⟩ hag
  rw [pop_cons, fin_nil, o_len, two_tests]
  refine cd_dec (fun hlt => ?_) (fun hge => ?_)
  · obtain ⟨hlt1, hlt2⟩ := hlt
    have hi2 : i < l.length := by omega
    have h0 : sat E w H := by unfold chI chR at h; exact h.drop.drop.drop.drop
    obtain ⟨b, o, c', e, hc', hrd⟩ := hl.opened h0 (by rw [fm_length (k := 5) (fun _ => rfl)]; omega)
    cases e
    rw [o_index (by omega) (by omega)]
    refine ld_el h (Rds.under hrd) (i * 5) (by simp) (dcells l[i]) rfl (deeds_at (List.getElem?_eq_getElem hi2)) ?_
    refine do_spec ok (by omega) hd h fun v' u' w h => ?_
    rw [o_add, i64_of (by omega) (by omega)]
    exact hag (60 - (i + 1)) _ _ (by omega) ⟨i + 1, _, v', u', rfl, rfl, by omega, ok_do ok, inv_do inv, right_do ok rgt, h⟩
  have := ok.few; have := ok.top; have := ok.b0; have := ok.le
  have hn8 := n8.toNat_lt
  refine Anchor_spec ok (by omega) h fun w h => ?_
  have okA := ok_anchor ok
  have hAn : (anchorS s).an = s.bn + s.l.length := rfl
  have hAb : (anchorS s).bn = s.bn := rfl
  have hAl : (anchorS s).l = s.l := rfl
  have hAr := right_anchor ok rgt
  generalize anchorS s = a at h okA hAn hAb hAl hAr
  have hal : a.l.length = s.l.length := by rw [hAl]
  refine Events_spec okA h fun u w h => ?_
  obtain ⟨ua, uc, rfl, hcu, _, hpos⟩ := osl_shape h
  obtain ⟨wa, wc, rfl, _⟩ := (Rds.evs (s := a) (p := p) (R := chR q s v2 H)).shape h.drop
  refine Head_spec (p := p) okA h fun w h => ?_
  refine Count_spec (p := p) okA (by omega) h fun w h => ?_
  refine hash_in h okA.h fun hb w h => ?_
  have t2 : IntKind.i64.wrap (a.bn + (a.l.length : Int) - (a.l.length : Int)) = a.bn := by rw [i64_of (by omega) (by omega)]; omega
  rw [o_len, o_sub, t2]
  refine jn_cut (fun σ w => ∃ kk : Nat, σ = [.int .i64 (kk : Int)] ∧ kk ≤ a.l.length ∧ sat E w (pts hb (.cells (a.hd.map bv).toArray 36 (0, 0)) * (osl 34 4 (.slice ua a.l.length uc) a.l.length (evs a.l) * chI p a (.slice wa a.l.length wc) (chR q s v2 H)))) (fun kj hkj => ?_) ?_
  · rw [o_len, o_gtr]
    refine cd_dec (fun hpos0 => ?_) (fun hz => ?_)
    · have e1 : bv n8 = .int .u8 (n8.toNat : Int) := rfl
      have e2 : (n8.toNat : Int).tmod ((a.l.length : Int) + 1) = ((n8.toNat % (a.l.length + 1) : Nat) : Int) := by rw [Int.tmod_eq_emod_of_nonneg (by omega)]; simp
      rw [e1, o_convInt, i64_of (by omega) (by omega), o_len, o_add, i64_of (by omega) (by omega), o_rem (by omega), e2]
      exact hkj _ _ ⟨_, rfl, by have := Nat.mod_lt n8.toNat (show 0 < a.l.length + 1 by omega); omega, h⟩
    · exact hkj _ _ ⟨0, rfl, by omega, h⟩
  clear h
  rintro σ w ⟨kk, rfl, hkk, h⟩
  rw [pop_cons, fin_nil, o_add, i64_of (by omega) (by omega)]
  obtain ⟨s', e3, hl', hb', hh', hn', hbh, hah, hdd, han⟩ : ∃ s' : Ch, pruneS a (a.bn + (kk : Int)) = (s', (kk : Int), 0) ∧ s'.l = a.l.drop kk ∧ s'.bn = a.bn + kk ∧ s'.hd = a.hd ∧ s'.an = a.an ∧ s'.bh = links a.bh (a.l.take kk) ∧ s'.ah = a.ah ∧ s'.hd = a.hd ∧ s'.an = a.bn + a.l.length := by
    refine ⟨{ a with bn := a.bn + kk, bh := links a.bh (a.l.take kk), l := a.l.drop kk }, ?_, rfl, rfl, rfl, rfl, rfl, rfl, rfl, show a.an = a.bn + a.l.length by omega⟩
    unfold pruneS
    rw [if_neg (by omega), show (a.bn + (kk : Int) - a.bn).toNat = kk by omega, show a.bn + (kk : Int) - a.bn = kk by omega]
  have ok' : Ok (pruneS a (a.bn + (kk : Int))).1 i := ok_prune okA
  have rg' : Right (pruneS a (a.bn + (kk : Int))).1 := right_prune okA hAr
  refine Prune_spec okA (by omega) hd.up (by
    unfold chI at h ⊢
    exact h.perm (show _ = pts p (.cells (icells a (.slice wa a.l.length wc)).toArray 59 (0, 0)) * (pers (immS (.slice wa a.l.length wc) a.l.length (evs a.l)) * (pts hb (.cells (a.hd.map bv).toArray 36 (0, 0)) * (osl 34 4 (.slice ua a.l.length uc) a.l.length (evs a.l) * chR q s v2 H))) by ac_rfl)) fun v' w h => ?_
  rw [e3] at h ok' rg' ⊢
  rw [o_extract, o_extract]
  have h : sat E w (chI p s' v' (pts hb (.cells (a.hd.map bv).toArray 36 (0, 0)) * (osl 34 4 (.slice ua a.l.length uc) a.l.length (evs a.l) * chR q s v2 H))) := h
  have ok' : Ok s' i := ok'
  have hlen' : s'.l.length = a.l.length - kk := by rw [hl']; simp
  refine Events_spec ok' h fun u2 w h => ?_
  obtain ⟨ua2, uc2, rfl, hcu2, _, hpos2⟩ := osl_shape h
  obtain ⟨wa2, wc2, rfl, _⟩ := (Rds.evs (s := s') (p := p) (R := pts hb (.cells (a.hd.map bv).toArray 36 (0, 0)) * (osl 34 4 (.slice ua a.l.length uc) a.l.length (evs a.l) * chR q s v2 H))).shape h.drop
  refine dr_sl h fun w h _ => ?_
  have t5 : IntKind.i64.wrap ((a.l.length : Int) - (kk : Int)) = ((a.l.length - kk : Nat) : Int) := by rw [i64_of (by omega) (by omega)]; omega
  have t6 : ((s'.l.length : Nat) : Int) = ((a.l.length - kk : Nat) : Int) := by rw [hlen']
  simp only [t0, t5, t6, ↓o_nil, ↓o_field, ↓o_add, ↓o_sub, ↓o_mul, ↓o_lss, ↓o_leq, ↓o_gtr, ↓o_geq, ↓o_not, ↓o_pick, ↓o_eqInt, ↓o_neInt, ↓o_eqBool, ↓o_neBool, ↓o_eqPtr, ↓o_nePtr, ↓o_eqPtr', ↓o_eqSl, ↓o_neSl, ↓o_eqStr, ↓o_neStr, ↓o_len, ↓o_lenS, ↓o_min, ↓o_max, ↓o_extract, ↓o_convInt, ↓cd_true, ↓cd_false, ↓gate_tt, ↓gate_ff, ↓gate_tf, ↓gate_ft, ↓gate_undef, ↓o_bind, ↓stay_v, ↓pop_cons, ↓fin_nil, Option.isNone_none, Option.isNone_some, Bool.not_true, Bool.not_false, Nat.zero_add, decide_true, decide_false, if_true, if_false, Bool.false_eq_true, ↓reduceIte]
  refine ld_agg (b := hb) h (by simp [okA.h]) ?_
  try simp only [↓o_nil, ↓o_field, ↓o_add, ↓o_sub, ↓o_mul, ↓o_lss, ↓o_leq, ↓o_gtr, ↓o_geq, ↓o_not, ↓o_pick, ↓o_eqInt, ↓o_neInt, ↓o_eqBool, ↓o_neBool, ↓o_eqPtr, ↓o_nePtr, ↓o_eqPtr', ↓o_eqSl, ↓o_neSl, ↓o_eqStr, ↓o_neStr, ↓o_len, ↓o_lenS, ↓o_min, ↓o_max, ↓o_extract, ↓o_convInt, ↓cd_true, ↓cd_false, ↓gate_tt, ↓gate_ff, ↓gate_tf, ↓gate_ft, ↓gate_undef, ↓o_bind, ↓stay_v, ↓pop_cons, ↓fin_nil, Option.isNone_none, Option.isNone_some, Bool.not_true, Bool.not_false, Nat.zero_add, decide_true, decide_false, if_true, if_false, Bool.false_eq_true, ↓reduceIte]
  refine Head_spec (p := p) ok' h fun w h => ?_
  refine st_agg (b := hb) h (by simp [okA.h]) ?_
  rw [hh', neq36 okA.h okA.h]
  simp only [beq_self_eq_true, ↓o_nil, ↓o_field, ↓o_add, ↓o_sub, ↓o_mul, ↓o_lss, ↓o_leq, ↓o_gtr, ↓o_geq, ↓o_not, ↓o_pick, ↓o_eqInt, ↓o_neInt, ↓o_eqBool, ↓o_neBool, ↓o_eqPtr, ↓o_nePtr, ↓o_eqPtr', ↓o_eqSl, ↓o_neSl, ↓o_eqStr, ↓o_neStr, ↓o_len, ↓o_lenS, ↓o_min, ↓o_max, ↓o_extract, ↓o_convInt, ↓cd_true, ↓cd_false, ↓gate_tt, ↓gate_ff, ↓gate_tf, ↓gate_ft, ↓gate_undef, ↓o_bind, ↓stay_v, ↓pop_cons, ↓fin_nil, Option.isNone_none, Option.isNone_some, Bool.not_true, Bool.not_false, Nat.zero_add, decide_true, decide_false, if_true, if_false, Bool.false_eq_true, ↓reduceIte]
  refine Count_spec (p := p) ok' (by omega) h fun w h => ?_
  refine st_agg (b := hb) h (by simp [okA.h]) ?_
  have t7 : s'.bn + (s'.l.length : Int) = a.bn + (a.l.length : Int) := by omega
  simp only [t0, t7, ↓o_nil, ↓o_field, ↓o_add, ↓o_sub, ↓o_mul, ↓o_lss, ↓o_leq, ↓o_gtr, ↓o_geq, ↓o_not, ↓o_pick, ↓o_eqInt, ↓o_neInt, ↓o_eqBool, ↓o_neBool, ↓o_eqPtr, ↓o_nePtr, ↓o_eqPtr', ↓o_eqSl, ↓o_neSl, ↓o_eqStr, ↓o_neStr, ↓o_len, ↓o_lenS, ↓o_min, ↓o_max, ↓o_extract, ↓o_convInt, ↓cd_true, ↓cd_false, ↓gate_tt, ↓gate_ff, ↓gate_tf, ↓gate_ft, ↓gate_undef, ↓o_bind, ↓stay_v, ↓pop_cons, ↓fin_nil, Option.isNone_none, Option.isNone_some, Bool.not_true, Bool.not_false, Nat.zero_add, decide_true, decide_false, if_true, if_false, Bool.false_eq_true, ↓reduceIte]
  refine Verify_spec ok' (by omega) hd.up (by
    unfold chI at h ⊢
    exact h.perm (show _ = pts p (.cells (icells s' (.slice wa2 s'.l.length wc2)).toArray 59 (0, 0)) * (pers (immS (.slice wa2 s'.l.length wc2) s'.l.length (evs s'.l)) * (osl 34 4 (.slice ua2 s'.l.length uc2) s'.l.length (evs s'.l) * (pts hb (.cells (a.hd.map bv).toArray 36 (0, 0)) * (osl 34 4 (.slice ua a.l.length uc) a.l.length (evs a.l) * chR q s v2 H)))) by ac_rfl)) fun w h => ?_
  refine st_agg (b := hb) h (by simp [okA.h]) ?_
  have tV : verifyS s' = 0 := Right.ok rg'
  simp only [tV, t0, ↓o_nil, ↓o_field, ↓o_add, ↓o_sub, ↓o_mul, ↓o_lss, ↓o_leq, ↓o_gtr, ↓o_geq, ↓o_not, ↓o_pick, ↓o_eqInt, ↓o_neInt, ↓o_eqBool, ↓o_neBool, ↓o_eqPtr, ↓o_nePtr, ↓o_eqPtr', ↓o_eqSl, ↓o_neSl, ↓o_eqStr, ↓o_neStr, ↓o_len, ↓o_lenS, ↓o_min, ↓o_max, ↓o_extract, ↓o_convInt, ↓cd_true, ↓cd_false, ↓gate_tt, ↓gate_ff, ↓gate_tf, ↓gate_ft, ↓gate_undef, ↓o_bind, ↓stay_v, ↓pop_cons, ↓fin_nil, Option.isNone_none, Option.isNone_some, Bool.not_true, Bool.not_false, Nat.zero_add, decide_true, decide_false, if_true, if_false, Bool.false_eq_true, ↓reduceIte]
  have h : sat E w (osl 34 4 (.slice ua2 s'.l.length uc2) s'.l.length (evs s'.l) * (osl 34 4 (.slice ua a.l.length uc) a.l.length (evs a.l) * H)) := by
    unfold chI chR at h
    have h := h.perm (show _ = pts p (.cells (icells s' (.slice wa2 s'.l.length wc2)).toArray 59 (0, 0)) * (pers (immS (.slice wa2 s'.l.length wc2) s'.l.length (evs s'.l)) * (pts hb (.cells (a.hd.map bv).toArray 36 (0, 0)) * (pts q (.cells (rcells s v2).toArray 61 (0, 0)) * (pers (immS v2 s.l.length (evs s.l)) * (osl 34 4 (.slice ua2 s'.l.length uc2) s'.l.length (evs s'.l) * (osl 34 4 (.slice ua a.l.length uc) a.l.length (evs a.l) * H)))))) by ac_rfl)
    exact h.drop.drop.drop.drop.drop
  refine lp_nat (fun r σ w => ∃ j : Nat, σ = [.int .i64 (j : Int)] ∧ r = s'.l.length - j ∧ j ≤ s'.l.length ∧ sat E w (osl 34 4 (.slice ua2 s'.l.length uc2) s'.l.length (evs s'.l) * (osl 34 4 (.slice ua a.l.length uc) a.l.length (evs a.l) * H))) s'.l.length ⟨0, rfl, by omega, by omega, h⟩ ?_
  clear h
  rintro r σ w again2 ⟨j, rfl, rfl, hj, h⟩ hag2
  rw [pop_cons, fin_nil]
  try rw [o_len]
  rw [o_lss]
  refine cd_dec (fun hlt => ?_) (fun hge2 => ?_)
  · have hj2 : j < s'.l.length := by omega
    obtain ⟨ub2, hub2⟩ := hpos2 (by omega)
    obtain ⟨ub, hub⟩ := hpos (by omega)
    subst hub hub2
    have hrd2 : Rds (osl 34 4 (.slice (some ⟨ub2, 0, none⟩) s'.l.length uc2) s'.l.length (evs s'.l) * (osl 34 4 (.slice (some ⟨ub, 0, none⟩) a.l.length uc) a.l.length (evs a.l) * H)) (.slice (some ⟨ub2, 0, none⟩) s'.l.length uc2) s'.l.length (evs s'.l) := Rds.osl.left
    have hrd : Rds (osl 34 4 (.slice (some ⟨ub2, 0, none⟩) s'.l.length uc2) s'.l.length (evs s'.l) * (osl 34 4 (.slice (some ⟨ub, 0, none⟩) a.l.length uc) a.l.length (evs a.l) * H)) (.slice (some ⟨ub, 0, none⟩) a.l.length uc) a.l.length (evs a.l) := Rds.osl.left.right
    have y0 : s'.l[j]? = some a.l[kk + j] := by rw [hl', List.getElem?_drop, List.getElem?_eq_getElem (by omega)]
    have y1 : a.l[kk + j]? = some a.l[kk + j] := List.getElem?_eq_getElem (by omega)
    refine dr_sl h fun w h _ => ?_
    have t8 : IntKind.i64.wrap ((kk : Int) + (j : Int)) = ((kk + j : Nat) : Int) := by rw [i64_of (by omega) (by omega)]; omega
    rw [o_index (by omega) (by omega)]
    try rw [o_add]
    rw [t8, o_index (by omega) (by omega)]
    simp only [Int.toNat_natCast, ↓o_nil, ↓o_field, ↓o_add, ↓o_sub, ↓o_mul, ↓o_lss, ↓o_leq, ↓o_gtr, ↓o_geq, ↓o_not, ↓o_pick, ↓o_eqInt, ↓o_neInt, ↓o_eqBool, ↓o_neBool, ↓o_eqPtr, ↓o_nePtr, ↓o_eqPtr', ↓o_eqSl, ↓o_neSl, ↓o_eqStr, ↓o_neStr, ↓o_len, ↓o_lenS, ↓o_min, ↓o_max, ↓o_extract, ↓o_convInt, ↓cd_true, ↓cd_false, ↓gate_tt, ↓gate_ff, ↓gate_tf, ↓gate_ft, ↓gate_undef, ↓o_bind, ↓stay_v, ↓pop_cons, ↓fin_nil, Option.isNone_none, Option.isNone_some, Bool.not_true, Bool.not_false, Nat.zero_add, decide_true, decide_false, if_true, if_false, Bool.false_eq_true, ↓reduceIte]
    refine ld_el h hrd2 (j * 4) (by omega) (ecells a.l[kk + j]) rfl (evs_at y0) ?_
    try simp only [↓o_nil, ↓o_field, ↓o_add, ↓o_sub, ↓o_mul, ↓o_lss, ↓o_leq, ↓o_gtr, ↓o_geq, ↓o_not, ↓o_pick, ↓o_eqInt, ↓o_neInt, ↓o_eqBool, ↓o_neBool, ↓o_eqPtr, ↓o_nePtr, ↓o_eqPtr', ↓o_eqSl, ↓o_neSl, ↓o_eqStr, ↓o_neStr, ↓o_len, ↓o_lenS, ↓o_min, ↓o_max, ↓o_extract, ↓o_convInt, ↓cd_true, ↓cd_false, ↓gate_tt, ↓gate_ff, ↓gate_tf, ↓gate_ft, ↓gate_undef, ↓o_bind, ↓stay_v, ↓pop_cons, ↓fin_nil, Option.isNone_none, Option.isNone_some, Bool.not_true, Bool.not_false, Nat.zero_add, decide_true, decide_false, if_true, if_false, Bool.false_eq_true, ↓reduceIte]
    refine ld_el h hrd ((kk + j) * 4) (by omega) (ecells a.l[kk + j]) rfl (evs_at y1) ?_
    have e9 : ∀ (xo yo : Operand) (y : Evt) (K : Value → World → Prop), pvv prog (oEq .neq 34 xo yo (.agg (ecells y).toArray) (.agg (ecells y).toArray)) w K = K (.bool false) w := fun xo yo y K => by
      have := neq_ev (K := K) (w := w) (x := y) (y := y) (xo := xo) (yo := yo)
      rw [decide_eq_true rfl] at this
      exact this
    rw [e9]
    simp only [↓o_nil, ↓o_field, ↓o_add, ↓o_sub, ↓o_mul, ↓o_lss, ↓o_leq, ↓o_gtr, ↓o_geq, ↓o_not, ↓o_pick, ↓o_eqInt, ↓o_neInt, ↓o_eqBool, ↓o_neBool, ↓o_eqPtr, ↓o_nePtr, ↓o_eqPtr', ↓o_eqSl, ↓o_neSl, ↓o_eqStr, ↓o_neStr, ↓o_len, ↓o_lenS, ↓o_min, ↓o_max, ↓o_extract, ↓o_convInt, ↓cd_true, ↓cd_false, ↓gate_tt, ↓gate_ff, ↓gate_tf, ↓gate_ft, ↓gate_undef, ↓o_bind, ↓stay_v, ↓pop_cons, ↓fin_nil, Option.isNone_none, Option.isNone_some, Bool.not_true, Bool.not_false, Nat.zero_add, decide_true, decide_false, if_true, if_false, Bool.false_eq_true, ↓reduceIte]
    rw [i64_of (by omega) (by omega)]
    exact hag2 (s'.l.length - (j + 1)) _ _ (by omega) ⟨j + 1, rfl, rfl, by omega, h⟩
  · exact k _ h.drop.drop
end Go.Proofs.YtjeiojibnmfibaaDoor.Prunes
