/-
  TopEnded: the walk.
-/
import Derived.Test.YtbcimkjgpplcpaaDoorTokH
import Derived.Test.YtbcimkjgpplcpaaDoorTests
set_option linter.all false
set_option maxRecDepth 100000
namespace Go.Proofs.YtbcimkjgpplcpaaDoor.Ended
open Go Hold Go.ChangeShapes Go.WideShapes Go.ChangeAt Go.RowKit
variable {E : World0} {w : World} {H R : HP} {K : Value → World → Prop}
theorem open_times {W : World} {H : Type} {enc : TypeId × Value → H} {r : Reach} {b0 : Nat} {v : Value} {d : DataW H} {p : List MemPlace} (hv : Value.okWide prog W r b0 49 v) (h : DataW.Trod enc prog W 0 (fun _ => true) true 49 v d p) (_hw : ∀ n ∈ d.weights prog 49, n ≤ 140737488351232) : ∃ l : List (Fin 65536), Rds (old W) v l.length (l.map fun b => .int .u16 (b.val : Int)) ∧ l.length ≤ 9223372036854775807 :=
  open_u16s (t := 49) (e := 54) (by kernel_rfl) (by kernel_rfl) (by kernel_rfl) hv h
abbrev oU : Own2 := ⟨[116], [117]⟩
/-- The sessions, the tokens, the owner. -/
abbrev all3 (p a q b c : Nat) (t : Tb) (s : T.St) (ob : Nat) (R : HP) : HP := tI p t a (T.sI q s b c (boxO ob oU * R))
theorem all3_s {p a q b c ob : Nat} {t : Tb} {s : T.St} {R X : HP} (h : sat E w (X * all3 p a q b c t s ob R)) : sat E w (T.sI q s b c (X * tI p t a (boxO ob oU * R))) := by
  unfold all3 at h
  unfold tI T.sI at h ⊢
  exact h.perm (by ac_rfl)
theorem s_all3 {p a q b c ob : Nat} {t : Tb} {s : T.St} {R X : HP} (h : sat E w (T.sI q s b c (X * tI p t a (boxO ob oU * R)))) : sat E w (X * all3 p a q b c t s ob R) := by
  unfold all3
  unfold tI T.sI at h ⊢
  exact h.perm (by ac_rfl)
theorem s3 {p a q b c ob : Nat} {t : Tb} {s : T.St} {R : HP} (h : sat E w (all3 p a q b c t s ob R)) : sat E w (T.sI q s b c (tI p t a (boxO ob oU * R))) := by
  unfold all3 at h
  unfold tI T.sI at h ⊢
  exact h.perm (by ac_rfl)
theorem s3' {p a q b c ob : Nat} {t : Tb} {s : T.St} {R : HP} (h : sat E w (T.sI q s b c (tI p t a (boxO ob oU * R)))) : sat E w (all3 p a q b c t s ob R) := by
  unfold all3
  unfold tI T.sI at h ⊢
  exact h.perm (by ac_rfl)
theorem Ended_spec (h : sat E w H) {v : Value} (l : List (Fin 65536)) (hl : Rds H v l.length (l.map fun b => .int .u16 (b.val : Int))) (ml : l.length ≤ 9223372036854775807)
    (k : ∀ w', sat E w' H → K (.bool true) w') : Calls prog 6 #[v] w (Ret K) := by
  have t0 : ∀ n : Int, decide (n = n) = true := fun n => decide_eq_true rfl
  have e99 : (.string ⟨#[99]⟩ : Value) = tv [99] := rfl
  have e7 : (.int .u8 7 : Value) = bv 7 := rfl
  obtain ⟨va, vc, rfl, hvc, hl, _⟩ := hl.shape h
  refine c6 ?_
  unfold B6
  rw [e99, e7]
  refine New_spec h fun p a w h => ?_
  refine T.New_spec h fun q b c w h => ?_
  rw [o_eqPtr, Option.isNone_some, gate_ff]
  dsimp only
  rw [gate_ff]
  try dsimp only
  rw [o_eqPtr, Option.isNone_some, o_pick, if_neg (by decide), cd_false]
  refine pvv_of (v := .agg (ocells oU).toArray) (fun w => by kernel_rfl) ?_
  refine alloc_sl h fun ob w h => ?_
  have h : sat E w (pts ob (.cells (ocells ⟨[], []⟩).toArray 53 (0, 0)) * (T.sI q T.newS b c (tI p newT a H))) := h
  have one2 : ∀ o : Own2, ∀ v ∈ ocells o, v.oneCell' = true := fun o v hv => by
    simp [ocells] at hv
    rcases hv with rfl | rfl <;> rfl
  refine store_all (b := ob) h (xs := ocells ⟨[], []⟩) (vs := ocells oU) rfl rfl (one2 _) fun w h => ?_
  have h : sat E w (all3 p a q b c newT T.newS ob H) := h.perm (by unfold all3 tI T.sI boxO; ac_rfl)
  refine lp_nat (fun r σ w => ∃ (i n : Nat) (t : Tb) (s : T.St), σ = [.int .i64 (n : Int), .int .i64 (i : Int)] ∧ r = 40 - i ∧ i ≤ 40 ∧ n ≤ 120 * i ∧ OkT t (2 * i) ∧ T.OkS s (2 * i) ∧ T.J t s n ∧ sat E w (all3 p a q b c t s ob H)) 40
    ⟨0, 0, newT, T.newS, rfl, rfl, by omega, by omega, ok_newT, T.ok_newS, ⟨by simp [newT], by simp [T.newS], by simp [T.newS], by simp [T.newS]⟩, h⟩ ?_
  clear h
  rintro r σ w again ⟨i, n, t, s, rfl, rfl, hi, hn, okt, oks, j, h⟩ hag
  rw [pop_cons, pop_cons, fin_nil, o_len, two_lss]
  refine cd_dec (fun hlt => ?_) (fun hge => ?_)
  case refine_2 =>
    unfold all3 tI T.sI at h
    exact k w h.drop.drop.drop.drop.drop.drop
  have hi1 : i < l.length := by omega
  have hx : l[i]? = some l[i] := List.getElem?_eq_getElem hi1
  generalize l[i] = d0 at hx
  have hd0 : d0.val < 65536 := d0.isLt
  have h0 : sat E w H := by unfold all3 tI T.sI at h; exact h.drop.drop.drop.drop.drop.drop
  obtain ⟨b', o', c', e, hc', hrd⟩ := hl.opened h0 (by simp; omega)
  cases e
  rw [o_index (by omega) (by omega)]
  have hv : (l.map fun b => Value.int .u16 (b.val : Int))[i]? = some (.int .u16 (d0.val : Int)) := by rw [List.getElem?_map, hx]; rfl
  refine ld_rd h (Rds.under hrd) i (by simp) hv ?_
  have e2 : (d0.val : Int).tmod 120 = ((d0.val % 120 : Nat) : Int) := by rw [Int.tmod_eq_emod_of_nonneg (by omega)]; omega
  have e3 : (d0.val : Int).tmod 3 = ((d0.val % 3 : Nat) : Int) := by rw [Int.tmod_eq_emod_of_nonneg (by omega)]; omega
  have hd2 : d0.val % 120 < 120 := Nat.mod_lt _ (by decide)
  rw [o_convInt, i64_of (by omega) (by omega), o_rem (by decide), e2, o_add, i64_of (by omega) (by omega)]
  generalize d0.val % 120 = d at hd2
  rw [show (n : Int) + (d : Int) = ((n + d : Nat) : Int) by omega]
  generalize hn' : n + d = n'
  have te : timeE t n' = 0 := by
    have := j.tn
    unfold timeE
    rw [if_neg (by omega), if_neg (by omega)]
  refine Sweep_spec okt (by omega) h (fun he => absurd te he) fun _ u w h => ?_
  rw [o_extract, o_extract]
  obtain ⟨j2, l2⟩ := T.j_sweep (now := n') oks j (by omega)
  have okt2 := ok_sweep okt te
  have h := h.perm (show _ = T.sI q s b c (osl 3 1 u (sweepT t n').2.length ((sweepT t n').2.map iv) * tI p (sweepT t n').1 a (boxO ob oU * H)) by unfold tI T.sI; ac_rfl)
  have hul : (sweepT t n').2.length ≤ 1000000 := by
    have := okt.few
    unfold sweepT
    rw [List.length_map]
    exact Nat.le_trans (List.length_filter_le _ _) (by omega)
  refine T.EndSessions_spec (l := (sweepT t n').2) oks (by omega) h Rds.osl.left (by omega) fun u2 w h => ?_
  have oks2 := T.ok_dropAll (s.f.filter (T.esP (sweepT t n').2)) oks
  have h := s_all3 (X := osl 3 1 u (sweepT t n').2.length ((sweepT t n').2.map iv)) h.drop
  have h := h.drop
  generalize (T.dropAll s (s.f.filter (T.esP (sweepT t n').2))) = s at j2 oks2 h
  generalize (sweepT t n').1 = t at j2 l2 okt2 h
  rw [show (oEq .neq 30 : Operand → Operand → Value → Value → Sem Value) = oEq .neq 30 from rfl, o_neInt, show (!decide ((0 : Int) = 0)) = false from rfl, cd_false]
  refine jn_cut (fun σ w => ∃ (t : Tb) (s : T.St), σ = [] ∧ OkT t (2 * (i + 1)) ∧ T.OkS s (2 * (i + 1)) ∧ T.J t s n' ∧ T.L t n' ∧ sat E w (all3 p a q b c t s ob H)) (fun kj hkj => ?_) ?_
  · have okt3 : OkT t (2 * (i + 1)) := ok_up (ok_up okt2)
    have oks3 : T.OkS s (2 * (i + 1)) := T.ok_up (T.ok_up oks2)
    rw [o_index (by omega) (by omega)]
    refine ld_rd h (Rds.under hrd) i (by simp) hv ?_
    rw [o_rem (by decide), e3]
    have hd3 : d0.val % 3 < 3 := Nat.mod_lt _ (by decide)
    generalize d0.val % 3 = g at hd3
    rw [o_eqInt]
    refine cd_dec (fun g0 => ?_) (fun g0 => ?_)
    · refine ld_agg (b := ob) (xs := ocells oU) h rfl ?_
      refine Begin_spec okt2 (by omega) ⟨by decide, by decide⟩ h fun w h => ?_
      obtain ⟨j3, l3⟩ := T.j_begin (o := oU) j2 l2 ⟨by omega, by omega⟩
      exact hkj _ _ ⟨_, s, rfl, ok_up (ok_begin okt2), oks3, j3, l3, h⟩
    rw [o_eqInt]
    have tn : timeE t n' = 0 := by
      have := j2.tn
      unfold timeE
      rw [if_neg (by omega), if_neg (by omega)]
    have hll : (liveL t oU n').length ≤ 2 * i := Nat.le_trans (List.length_filter_le _ _) okt2.few
    refine cd_dec (fun g1 => ?_) (fun g1 => ?_)
    · refine ld_agg (b := ob) (xs := ocells oU) h rfl ?_
      refine Live_spec okt2 (by omega) h (fun he => absurd tn he) fun _ u w h => ?_
      rw [o_extract, o_extract]
      obtain ⟨ua, uc, rfl, _, _, hpos⟩ := osl_shape h
      rw [o_len, o_gtr]
      refine cd_dec (fun hp => ?_) (fun hp => ?_)
      · have hp1 : 0 < (liveL t oU n').length := by omega
        obtain ⟨ub, hub⟩ := hpos hp1
        subst hub
        have hx : (liveL t oU n')[0]? = some (liveL t oU n')[0] := List.getElem?_eq_getElem hp1
        have hxm : (liveL t oU n')[0] ∈ t.l := (List.mem_filter.1 (List.getElem_mem hp1)).1
        generalize (liveL t oU n')[0] = x at hx hxm
        rw [show (Value.int .i64 0) = .int .i64 ((0 : Nat) : Int) from rfl, o_index (by omega) (by omega)]
        simp only [↓o_nil, ↓o_field, ↓o_add, ↓o_sub, ↓o_mul, ↓o_lss, ↓o_leq, ↓o_gtr, ↓o_geq, ↓o_not, ↓o_pick, ↓o_eqInt, ↓o_neInt, ↓o_eqBool, ↓o_neBool, ↓o_eqPtr, ↓o_nePtr, ↓o_eqPtr', ↓o_eqSl, ↓o_neSl, ↓o_eqStr, ↓o_neStr, ↓o_len, ↓o_lenS, ↓o_min, ↓o_max, ↓o_extract, ↓o_convInt, ↓cd_true, ↓cd_false, ↓gate_tt, ↓gate_ff, ↓gate_tf, ↓gate_ft, ↓gate_undef, ↓o_bind, ↓stay_v, ↓pop_cons, ↓fin_nil, Option.isNone_none, Option.isNone_some, Bool.not_true, Bool.not_false, Nat.zero_add, decide_true, decide_false, if_true, if_false, Bool.false_eq_true, ↓reduceIte]
        refine ld_rd h Rds.osl.left (0 * 5 + 0) (by simp) (svs_cell hx (f := 0) rfl) ?_
        have h := h.perm (show _ = T.sI q s b c (osl 59 5 (.slice (some ⟨ub, 0, none⟩) (liveL t oU n').length uc) (liveL t oU n').length (svs (liveL t oU n')) * tI p t a (boxO ob oU * H)) by unfold tI T.sI; ac_rfl)
        refine T.Grant_spec (ses := x.id) (cl := [99]) (sc := 7) (now := n') oks2 (by omega) (by decide) h fun w h => ?_
        have h := (s_all3 h).drop
        exact hkj _ _ ⟨t, _, rfl, okt3, T.ok_grant oks2, T.j_grant j2 ⟨x, hxm, rfl⟩, l2, h⟩
      · exact hkj _ _ ⟨t, s, rfl, okt3, oks3, j2, l2, h.drop⟩
    · refine ld_agg (b := ob) (xs := ocells oU) h rfl ?_
      refine Live_spec okt2 (by omega) h (fun he => absurd tn he) fun _ u w h => ?_
      rw [o_extract, o_extract]
      obtain ⟨ua, uc, rfl, _, _, hpos⟩ := osl_shape h
      rw [o_len, o_gtr]
      refine cd_dec (fun hp => ?_) (fun hp => ?_)
      · have hp1 : 0 < (liveL t oU n').length := by omega
        obtain ⟨ub, hub⟩ := hpos hp1
        subst hub
        have hlt : (liveL t oU n').length - 1 < (liveL t oU n').length := by omega
        have hx : (liveL t oU n')[(liveL t oU n').length - 1]? = some (liveL t oU n')[(liveL t oU n').length - 1] := List.getElem?_eq_getElem hlt
        generalize (liveL t oU n')[(liveL t oU n').length - 1] = x at hx
        rw [o_len, o_sub, i64_of (by omega) (by omega), show ((liveL t oU n').length : Int) - 1 = (((liveL t oU n').length - 1 : Nat) : Int) by omega, o_index (by omega) (by omega)]
        simp only [↓o_nil, ↓o_field, ↓o_add, ↓o_sub, ↓o_mul, ↓o_lss, ↓o_leq, ↓o_gtr, ↓o_geq, ↓o_not, ↓o_pick, ↓o_eqInt, ↓o_neInt, ↓o_eqBool, ↓o_neBool, ↓o_eqPtr, ↓o_nePtr, ↓o_eqPtr', ↓o_eqSl, ↓o_neSl, ↓o_eqStr, ↓o_neStr, ↓o_len, ↓o_lenS, ↓o_min, ↓o_max, ↓o_extract, ↓o_convInt, ↓cd_true, ↓cd_false, ↓gate_tt, ↓gate_ff, ↓gate_tf, ↓gate_ft, ↓gate_undef, ↓o_bind, ↓stay_v, ↓pop_cons, ↓fin_nil, Option.isNone_none, Option.isNone_some, Bool.not_true, Bool.not_false, Nat.zero_add, decide_true, decide_false, if_true, if_false, Bool.false_eq_true, ↓reduceIte]
        refine ld_rd h Rds.osl.left (((liveL t oU n').length - 1) * 5 + 0) (by simp) (svs_cell hx (f := 0) rfl) ?_
        have h := h.perm (show _ = tI p t a (osl 59 5 (.slice (some ⟨ub, 0, none⟩) (liveL t oU n').length uc) (liveL t oU n').length (svs (liveL t oU n')) * T.sI q s b c (boxO ob oU * H)) by unfold tI T.sI; ac_rfl)
        refine Touch_spec (id := x.id) (now := n') okt2 h fun w h => ?_
        obtain ⟨j3, l3⟩ := T.j_touch (id := x.id) okt2 j2 l2 ⟨by omega, by omega⟩
        have h := h.perm (show _ = osl 59 5 (.slice (some ⟨ub, 0, none⟩) (liveL t oU n').length uc) (liveL t oU n').length (svs (liveL t oU n')) * all3 p a q b c (touchT t x.id n').1 s ob H by unfold all3 tI T.sI; ac_rfl)
        exact hkj _ _ ⟨_, s, rfl, ok_up (ok_up (ok_touch okt2)), oks3, j3, l3, h.drop⟩
      · exact hkj _ _ ⟨t, s, rfl, okt3, oks3, j2, l2, h.drop⟩
  · clear h j j2 l2 okt2 oks2 okt oks te
    rintro σ w ⟨t, s, rfl, okt, oks, j, l3, h⟩
    rw [fin_nil]
    refine lp_nat (fun r σ w => ∃ (e : Nat), σ = [.int .i64 (e : Int)] ∧ r = 20 - e ∧ e ≤ 20 ∧ sat E w (all3 p a q b c t s ob H)) 19 ⟨1, rfl, by omega, by omega, h⟩ ?_
    clear h
    rintro r σ w again2 ⟨e, rfl, rfl, he, h⟩ hag2
    rw [pop_cons, fin_nil, o_lss]
    refine cd_dec (fun hlt => ?_) (fun hge => ?_)
    · refine jn_cut (fun σ w => σ = [] ∧ sat E w (all3 p a q b c t s ob H)) (fun kj hkj => ?_) ?_
      · refine T.Access_spec (id := e) (now := n') (s3 h) fun w h => ?_
        rw [o_extract, o_extract]
        refine T.tok_in h fun ab w h => ?_
        rw [o_neInt]
        by_cases ha : (T.accT s e n').2 = 0
        case neg =>
          rw [show (!decide ((T.accT s e n').2 = 0)) = true by simp [ha], cd_true]
          exact hkj _ _ ⟨rfl, s3' h.drop⟩
        rw [show (!decide ((T.accT s e n').2 = 0)) = false by simp [ha], cd_false]
        obtain ⟨_, hm, _, _⟩ := T.accT_ok ha
        generalize (T.accT s e n').1 = x at h hm
        obtain ⟨f, hf, ef⟩ := j.kf x hm
        obtain ⟨y, hy, ey⟩ := j.fs f hf
        simp only [↓o_nil, ↓o_field, ↓o_add, ↓o_sub, ↓o_mul, ↓o_lss, ↓o_leq, ↓o_gtr, ↓o_geq, ↓o_not, ↓o_pick, ↓o_eqInt, ↓o_neInt, ↓o_eqBool, ↓o_neBool, ↓o_eqPtr, ↓o_nePtr, ↓o_eqPtr', ↓o_eqSl, ↓o_neSl, ↓o_eqStr, ↓o_neStr, ↓o_len, ↓o_lenS, ↓o_min, ↓o_max, ↓o_extract, ↓o_convInt, ↓cd_true, ↓cd_false, ↓gate_tt, ↓gate_ff, ↓gate_tf, ↓gate_ft, ↓gate_undef, ↓o_bind, ↓stay_v, ↓pop_cons, ↓fin_nil, Option.isNone_none, Option.isNone_some, Bool.not_true, Bool.not_false, Nat.zero_add, decide_true, decide_false, if_true, if_false, Bool.false_eq_true, ↓reduceIte]
        refine ld_in (b := ab) (v := .int .i64 x.fam) h rfl ?_
        refine T.Family_spec (id := x.fam) (T.sI_in h) fun w h => ?_
        rw [← ef, T.find_in oks hf, o_extract, o_extract]
        refine T.fam_in (T.sI_out h) fun fb w h => ?_
        try simp only [↓o_nil, ↓o_field, ↓o_add, ↓o_sub, ↓o_mul, ↓o_lss, ↓o_leq, ↓o_gtr, ↓o_geq, ↓o_not, ↓o_pick, ↓o_eqInt, ↓o_neInt, ↓o_eqBool, ↓o_neBool, ↓o_eqPtr, ↓o_nePtr, ↓o_eqPtr', ↓o_eqSl, ↓o_neSl, ↓o_eqStr, ↓o_neStr, ↓o_len, ↓o_lenS, ↓o_min, ↓o_max, ↓o_extract, ↓o_convInt, ↓cd_true, ↓cd_false, ↓gate_tt, ↓gate_ff, ↓gate_tf, ↓gate_ft, ↓gate_undef, ↓o_bind, ↓stay_v, ↓pop_cons, ↓fin_nil, Option.isNone_none, Option.isNone_some, Bool.not_true, Bool.not_false, Nat.zero_add, decide_true, decide_false, if_true, if_false, Bool.false_eq_true, ↓reduceIte]
        refine ld_in (b := fb) (v := .int .i64 f.ses) h rfl ?_
        rw [← ey]
        have h := h.perm (show _ = tI p t a (pts fb (.cells (T.fcells f).toArray 27 (0, 0)) * (pts ab (.cells (T.kcells x).toArray 29 (0, 0)) * T.sI q s b c (boxO ob oU * H))) by unfold tI T.sI; ac_rfl)
        refine Get_spec (id := y.id) (now := n') okt h fun w h => ?_
        rw [T.get_in okt (by omega) (by omega) j.tn l3 hy, o_extract, o_extract]
        refine ses_in h fun yb w h => ?_
        simp only [t0, ↓o_nil, ↓o_field, ↓o_add, ↓o_sub, ↓o_mul, ↓o_lss, ↓o_leq, ↓o_gtr, ↓o_geq, ↓o_not, ↓o_pick, ↓o_eqInt, ↓o_neInt, ↓o_eqBool, ↓o_neBool, ↓o_eqPtr, ↓o_nePtr, ↓o_eqPtr', ↓o_eqSl, ↓o_neSl, ↓o_eqStr, ↓o_neStr, ↓o_len, ↓o_lenS, ↓o_min, ↓o_max, ↓o_extract, ↓o_convInt, ↓cd_true, ↓cd_false, ↓gate_tt, ↓gate_ff, ↓gate_tf, ↓gate_ft, ↓gate_undef, ↓o_bind, ↓stay_v, ↓pop_cons, ↓fin_nil, Option.isNone_none, Option.isNone_some, Bool.not_true, Bool.not_false, Nat.zero_add, decide_true, decide_false, if_true, if_false, Bool.false_eq_true, ↓reduceIte]
        refine hkj _ _ ⟨rfl, ?_⟩
        have h := h.drop
        have h := h.perm (show _ = pts fb (.cells (T.fcells f).toArray 27 (0, 0)) * (pts ab (.cells (T.kcells x).toArray 29 (0, 0)) * all3 p a q b c t s ob H) by unfold all3 tI T.sI; ac_rfl)
        exact h.drop.drop
      · clear h
        rintro σ w ⟨rfl, h⟩
        rw [fin_nil]
        try rw [o_add]
        rw [i64_of (by omega) (by omega)]
        exact hag2 (20 - (e + 1)) _ _ (by omega) ⟨e + 1, rfl, rfl, by omega, h⟩
    · try rw [o_add]
      rw [i64_of (by omega) (by omega)]
      exact hag (40 - (i + 1)) _ _ (by omega) ⟨i + 1, n', t, s, rfl, rfl, by omega, by omega, okt, oks, j, h⟩
end Go.Proofs.YtbcimkjgpplcpaaDoor.Ended
