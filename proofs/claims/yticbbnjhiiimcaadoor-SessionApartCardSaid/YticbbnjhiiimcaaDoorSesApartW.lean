/-
  SessionApart: the walk.
-/
import Derived.Test.YticbbnjhiiimcaaDoorSesU
import Derived.Test.YticbbnjhiiimcaaDoorSesO
import Derived.Test.YticbbnjhiiimcaaDoorTests
set_option linter.all false
set_option maxRecDepth 100000
namespace Go.Proofs.YticbbnjhiiimcaaDoor.Apart
open Go Hold Go.ChangeShapes Go.WideShapes Go.ChangeAt Go.RowKit
variable {E : World0} {w : World} {H R : HP} {K : Value → World → Prop}
section
variable {W : World} {H : Type} {enc : TypeId × Value → H} {r : Reach} {b0 : Nat} {v : Value} {d : DataW H} {p : List MemPlace}
theorem open_times (hv : Value.okWide prog W r b0 29 v) (h : DataW.Trod enc prog W 0 (fun _ => true) true 29 v d p) (_hw : ∀ n ∈ d.weights prog 29, n ≤ 140737488351232) : ∃ l : List (Fin 65536), Rds (old W) v l.length (l.map fun b => .int .u16 (b.val : Int)) ∧ l.length ≤ 9223372036854775807 :=
  open_u16s (t := 29) (e := 33) (by kernel_rfl) (by kernel_rfl) (by kernel_rfl) hv h
theorem open_who (hv : Value.okWide prog W r b0 30 v) (h : DataW.Trod enc prog W 0 (fun _ => true) true 30 v d p) (_hw : ∀ n ∈ d.weights prog 30, n ≤ 140737488351232) : ∃ l : List Bool, Rds (old W) v l.length (l.map Value.bool) ∧ l.length ≤ 9223372036854775807 :=
  open_boolsG (t := 30) (e := 4) (by kernel_rfl) (by kernel_rfl) (by kernel_rfl) hv h
end
def untilP (p : Int × Int) : Int := min (later p.2 200) (later p.1 1000)
def stm (x : Ses) : Int × Int := (x.since, x.used)
def mineP (t : Tb) (o : Own2) : List (Int × Int) := (t.l.filter fun x => decide (x.own = o)).map stm
theorem live_len (t : Tb) (o : Own2) (n : Int) : (liveL t o n).length = ((mineP t o).filter fun p => decide (n < untilP p)).length := by
  unfold liveL mineP
  rw [List.filter_map, List.length_map, List.filter_filter]
  congr 1
  refine List.filter_congr fun x _ => ?_
  unfold isMine
  rw [Bool.and_comm]
  rfl
theorem begin_eq {t : Tb} {o : Own2} {n : Int} (hn : (isName o.tn && isName o.us) = true) (ht : timeE t n = 0) (hx : t.next ≤ 1000) : beginT t o n = if 3 ≤ (liveL t o n).length then (t, zeroS, 22) else (⟨t.next + 1, n, t.l ++ [⟨t.next, o.tn, o.us, n, n⟩]⟩, ⟨t.next, o.tn, o.us, n, n⟩, 0) := by
  unfold beginT
  rw [if_neg (by simp [hn]), if_neg (by simp [ht]), if_neg (by omega)]
theorem begin_mine {t : Tb} {o : Own2} {n : Int} (hn : (isName o.tn && isName o.us) = true) (ht : timeE t n = 0) (hx : t.next ≤ 1000) : mineP (beginT t o n).1 o = if 3 ≤ ((mineP t o).filter fun p => decide (n < untilP p)).length then mineP t o else mineP t o ++ [(n, n)] := by
  rw [begin_eq hn ht hx, live_len]
  split
  · rfl
  · unfold mineP
    simp only [List.filter_append, List.map_append]
    congr 1
    rw [List.filter_cons, if_pos (by simp [Ses.own])]
    rfl
theorem begin_other {t : Tb} {o q : Own2} {n : Int} (hn : (isName q.tn && isName q.us) = true) (ht : timeE t n = 0) (hx : t.next ≤ 1000) (hq : q ≠ o) : mineP (beginT t q n).1 o = mineP t o := by
  rw [begin_eq hn ht hx]
  split
  · rfl
  · unfold mineP
    simp only [List.filter_append, List.map_append]
    rw [List.filter_cons, if_neg (by simp only [Ses.own]; exact fun e => hq (of_decide_eq_true e))]
    simp
theorem begin_noted {t : Tb} {q : Own2} {n : Int} (hn : (isName q.tn && isName q.us) = true) (ht : timeE t n = 0) (hx : t.next ≤ 1000) : (beginT t q n).1.noted ≤ n := by
  have := (time_ok ht).2.2
  rw [begin_eq hn ht hx]
  split
  · exact this
  · exact Int.le_refl _
theorem time_le {t : Tb} {n : Int} (h0 : 0 ≤ n) (h1 : t.noted ≤ n) (h2 : n ≤ 1000000) : timeE t n = 0 := by
  unfold timeE
  rw [if_neg (by omega), if_neg (by omega)]
theorem neq23 {x y : Own2} {xo yo : Operand} : pvv prog (oEq .neq 23 xo yo (.agg (ocells x).toArray) (.agg (ocells y).toArray)) w K = K (.bool !(decide (x = y))) w := o_neStruct (by kernel_rfl) (by kernel_rfl) (by kernel_rfl) (run_eq23 9998 x y)
abbrev oU : Own2 := ⟨[116], [117]⟩
abbrev oV : Own2 := ⟨[116], [118]⟩
abbrev two (p a q b : Nat) (s t : Tb) (R : HP) : HP := tI p s a (tI q t b R)
theorem two_2 {p a q b : Nat} {s t : Tb} {R : HP} (h : sat E w (two p a q b s t R)) : sat E w (tI q t b (tI p s a R)) := by
  unfold two at h
  unfold tI at h ⊢
  exact h.perm (by ac_rfl)
theorem Apart_spec (h : sat E w H) {v u : Value} (l : List (Fin 65536)) (hl : Rds H v l.length (l.map fun b => .int .u16 (b.val : Int))) (ml : l.length ≤ 9223372036854775807)
    (m : List Bool) (hm : Rds H u m.length (m.map Value.bool)) (mm : m.length ≤ 9223372036854775807)
    (k : ∀ w', sat E w' H → K (.bool true) w') : Calls prog 4 #[v, u] w (Ret K) := by
  obtain ⟨va, vc, rfl, hvc, hl, _⟩ := hl.shape h
  obtain ⟨ua, uc, rfl, huc, hm, _⟩ := hm.shape h
  have t0 : ∀ n : Int, decide (n = n) = true := fun n => decide_eq_true rfl
  refine c4 ?_
  unfold B4
  refine New_spec h fun p a w h => ?_
  refine New_spec h fun q b w h => ?_
  refine live_spec h fun w h => ?_
  simp only [↓o_not, Bool.not_true, ↓cd_false]
  refine pvv_of (v := .agg (ocells oU).toArray) (fun w => by kernel_rfl) ?_
  refine pvv_of (v := .agg (ocells oV).toArray) (fun w => by kernel_rfl) ?_
  refine alloc_sl h fun ob w h => ?_
  have h : sat E w (pts ob (.cells (ocells ⟨[], []⟩).toArray 23 (0, 0)) * (tI q newT b (tI p newT a H))) := h
  refine alloc_sl h fun pb w h => ?_
  have h : sat E w (pts pb (.cells (ocells ⟨[], []⟩).toArray 23 (0, 0)) * (pts ob (.cells (ocells ⟨[], []⟩).toArray 23 (0, 0)) * (tI q newT b (tI p newT a H)))) := h
  have one2 : ∀ o : Own2, ∀ v ∈ ocells o, v.oneCell' = true := fun o v hv => by
    simp [ocells] at hv
    rcases hv with rfl | rfl <;> rfl
  refine store_all (b := ob) h (xs := ocells ⟨[], []⟩) (vs := ocells oU) rfl rfl (one2 _) fun w h => ?_
  refine store_all (b := pb) h (xs := ocells ⟨[], []⟩) (vs := ocells oV) rfl rfl (one2 _) fun w h => ?_
  have h : sat E w (two p a q b newT newT (boxO ob oU * (boxO pb oV * H))) := h.perm (by unfold two tI boxO; ac_rfl)
  refine lp_nat (fun r σ w => ∃ (i n : Nat) (s t : Tb), σ = [.int .i64 (n : Int), .int .i64 (i : Int)] ∧ r = 40 - i ∧ i ≤ 40 ∧ n ≤ 150 * i ∧ s.noted ≤ n ∧ t.noted ≤ n ∧ OkT s i ∧ OkT t i ∧ mineP s oU = mineP t oU ∧ sat E w (two p a q b s t (boxO ob oU * (boxO pb oV * H)))) 40
    ⟨0, 0, newT, newT, rfl, rfl, by omega, by omega, by simp [newT], by simp [newT], ok_newT, ok_newT, rfl, h⟩ ?_
  clear h
  rintro r σ w again ⟨i, n, s, t, rfl, rfl, hi, hn, hs, ht, oks, okt, hm2, h⟩ hag
  have s1 := oks.n2
  have s2 := okt.n2
  rw [pop_cons, pop_cons, fin_nil, o_len, two_lss]
  refine cd_dec (fun hlt => ?_) (fun hge => ?_)
  · have hi1 : i < l.length := by omega
    have hx : l[i]? = some l[i] := List.getElem?_eq_getElem hi1
    generalize l[i] = d at hx
    have hd : d.val < 65536 := d.isLt
    have h0 : sat E w H := by unfold two tI at h; exact h.drop.drop.drop.drop.drop.drop
    obtain ⟨b', o', c', e, hc', hrd⟩ := hl.opened h0 (by simp; omega)
    cases e
    refine jn_cut (fun σ w => ∃ (n : Nat) (s t : Tb), σ = [.int .i64 (n : Int)] ∧ n ≤ 150 * (i + 1) ∧ s.noted ≤ n ∧ t.noted ≤ n ∧ OkT s (i + 1) ∧ OkT t (i + 1) ∧ mineP s oU = mineP t oU ∧ sat E w (two p a q b s t (boxO ob oU * (boxO pb oV * H)))) (fun kj hkj => ?_) ?_
    · rw [o_index (by omega) (by omega)]
      refine ld_rd h (Rds.under hrd) i (by simp) (v := .int .u16 (d.val : Int)) (by rw [List.getElem?_map, hx]; rfl) ?_
      have e2 : (d.val : Int).tmod 150 = ((d.val % 150 : Nat) : Int) := by rw [Int.tmod_eq_emod_of_nonneg (by omega)]; omega
      have hd2 : d.val % 150 < 150 := Nat.mod_lt _ (by decide)
      rw [o_convInt, i64_of (by omega) (by omega), o_rem (by decide), e2, o_add, i64_of (by omega) (by omega)]
      generalize d.val % 150 = d at hd2
      have e3 : (n : Int) + (d : Int) = ((n + d : Nat) : Int) := by omega
      rw [e3]
      generalize hn' : n + d = n'
      have ts : timeE s n' = 0 := time_le (by omega) (by omega) (by omega)
      have tt : timeE t n' = 0 := time_le (by omega) (by omega) (by omega)
      have nU : (isName oU.tn && isName oU.us) = true := by decide
      have nV : (isName oV.tn && isName oV.us) = true := by decide
      have his : ∀ (w : World) (K : Value → World → Prop), sat E w (two p a q b s t (boxO ob oU * (boxO pb oV * H))) → (∀ r, K (.bool r) w) →
          pv prog (oBi .len #[30] 3 #[false] #[.slice ua m.length uc]) w fun t_26 w =>
          pvv prog (binOp .lss 3 (.int .i64 (i : Int)) t_26) w fun t_27 w =>
          gate (some (t_27, true)) (fun K => K (.slice ua m.length uc) w) w fun t_28 w =>
          gate (some (t_27, true)) (fun K => K (.int .i64 (i : Int)) w) w fun t_29 w =>
          gate (some (t_27, true)) (fun K => pvv prog (Instr.indexAt 30 t_28 t_29) w K) w fun t_30 w =>
          gate (some (t_27, true)) (fun K => ldv prog (Instr.loadAt 4 t_30) w K) w fun t_31 w =>
          pv prog (oPick t_27 t_31 (.bool false)) w fun t_32 w => K t_32 w := by
        intro w K h hk
        rw [o_len, o_lss]
        by_cases h1 : (i : Int) < m.length
        · have hi2 : i < m.length := by omega
          have h0 : sat E w H := by unfold two tI at h; exact h.drop.drop.drop.drop.drop.drop
          obtain ⟨b2, o2, c2, e, hc2, hrd2⟩ := hm.opened h0 (by simp; omega)
          cases e
          simp only [decide_eq_true h1, ↓o_nil, ↓o_field, ↓o_add, ↓o_sub, ↓o_mul, ↓o_lss, ↓o_leq, ↓o_gtr, ↓o_geq, ↓o_not, ↓o_pick, ↓o_eqInt, ↓o_neInt, ↓o_eqBool, ↓o_neBool, ↓o_eqPtr, ↓o_nePtr, ↓o_eqPtr', ↓o_eqSl, ↓o_neSl, ↓o_eqStr, ↓o_neStr, ↓o_len, ↓o_lenS, ↓o_min, ↓o_max, ↓o_extract, ↓o_convInt, ↓cd_true, ↓cd_false, ↓gate_tt, ↓gate_ff, ↓gate_tf, ↓gate_ft, ↓gate_undef, ↓o_bind, ↓stay_v, ↓pop_cons, ↓fin_nil, Option.isNone_none, Option.isNone_some, Bool.not_true, Bool.not_false, Nat.zero_add, decide_true, decide_false, if_true, if_false, Bool.false_eq_true, ↓reduceIte]
          rw [o_index (by omega) (by omega)]
          refine ld_rd h (Rds.under hrd2) i (by simp) (v := .bool m[i]) (by rw [List.getElem?_map, List.getElem?_eq_getElem hi2]; rfl) ?_
          try simp only [↓o_nil, ↓o_field, ↓o_add, ↓o_sub, ↓o_mul, ↓o_lss, ↓o_leq, ↓o_gtr, ↓o_geq, ↓o_not, ↓o_pick, ↓o_eqInt, ↓o_neInt, ↓o_eqBool, ↓o_neBool, ↓o_eqPtr, ↓o_nePtr, ↓o_eqPtr', ↓o_eqSl, ↓o_neSl, ↓o_eqStr, ↓o_neStr, ↓o_len, ↓o_lenS, ↓o_min, ↓o_max, ↓o_extract, ↓o_convInt, ↓cd_true, ↓cd_false, ↓gate_tt, ↓gate_ff, ↓gate_tf, ↓gate_ft, ↓gate_undef, ↓o_bind, ↓stay_v, ↓pop_cons, ↓fin_nil, Option.isNone_none, Option.isNone_some, Bool.not_true, Bool.not_false, Nat.zero_add, decide_true, decide_false, if_true, if_false, Bool.false_eq_true, ↓reduceIte]
          exact hk _
        · simp only [decide_eq_false h1, ↓o_nil, ↓o_field, ↓o_add, ↓o_sub, ↓o_mul, ↓o_lss, ↓o_leq, ↓o_gtr, ↓o_geq, ↓o_not, ↓o_pick, ↓o_eqInt, ↓o_neInt, ↓o_eqBool, ↓o_neBool, ↓o_eqPtr, ↓o_nePtr, ↓o_eqPtr', ↓o_eqSl, ↓o_neSl, ↓o_eqStr, ↓o_neStr, ↓o_len, ↓o_lenS, ↓o_min, ↓o_max, ↓o_extract, ↓o_convInt, ↓cd_true, ↓cd_false, ↓gate_tt, ↓gate_ff, ↓gate_tf, ↓gate_ft, ↓gate_undef, ↓o_bind, ↓stay_v, ↓pop_cons, ↓fin_nil, Option.isNone_none, Option.isNone_some, Bool.not_true, Bool.not_false, Nat.zero_add, decide_true, decide_false, if_true, if_false, Bool.false_eq_true, ↓reduceIte]
          exact hk _
      refine his w _ h fun r => ?_
      cases r
      · rw [cd_false]
        refine ld_agg (b := ob) (xs := ocells oU) h rfl ?_
        refine Begin_spec oks (by omega) ⟨by decide, by decide⟩ h fun w h => ?_
        rw [o_extract, o_extract]
        refine ses_in h fun xb w h => ?_
        refine ld_agg (b := ob) (xs := ocells oU) h rfl ?_
        have h : sat E w (tI q t b (pts xb (.cells (scells (beginT s oU n').2.1).toArray 25 (0, 0)) * tI p (beginT s oU n').1 a (boxO ob oU * (boxO pb oV * H)))) := by
          unfold tI at h ⊢
          exact h.perm (by ac_rfl)
        refine Begin_spec okt (by omega) ⟨by decide, by decide⟩ h fun w h => ?_
        rw [o_extract, o_extract]
        refine ses_in h fun yb w h => ?_
        have ll : (liveL s oU n').length = (liveL t oU n').length := by rw [live_len, live_len, hm2]
        have e1 : (beginT s oU n').2.2 = (beginT t oU n').2.2 := by
          rw [begin_eq nU ts (by omega), begin_eq nU tt (by omega), ll]
          split <;> rfl
        have e2 : (beginT s oU n').2.1.since = (beginT t oU n').2.1.since := by
          rw [begin_eq nU ts (by omega), begin_eq nU tt (by omega), ll]
          split <;> rfl
        have e3 : (beginT s oU n').2.1.own = (beginT t oU n').2.1.own := by
          rw [begin_eq nU ts (by omega), begin_eq nU tt (by omega), ll]
          split <;> rfl
        have m2 : mineP (beginT s oU n').1 oU = mineP (beginT t oU n').1 oU := by
          rw [begin_mine nU ts (by omega), begin_mine nU tt (by omega), hm2]
        have d1 := begin_noted (q := oU) nU ts (by omega)
        have d2 := begin_noted (q := oU) nU tt (by omega)
        have ok1 := ok_begin (o := oU) (now := n') oks
        have ok2 := ok_begin (o := oU) (now := n') okt
        generalize beginT s oU n' = bs at h e1 e2 e3 m2 d1 ok1 ⊢
        generalize beginT t oU n' = bt at h e1 e2 e3 m2 d2 ok2 ⊢
        obtain ⟨s', x, e⟩ := bs
        obtain ⟨t', y, f⟩ := bt
        simp only at h e1 e2 e3 m2 d1 ok1 d2 ok2 ⊢
        subst e1
        simp only [t0, ↓o_nil, ↓o_field, ↓o_add, ↓o_sub, ↓o_mul, ↓o_lss, ↓o_leq, ↓o_gtr, ↓o_geq, ↓o_not, ↓o_pick, ↓o_eqInt, ↓o_neInt, ↓o_eqBool, ↓o_neBool, ↓o_eqPtr, ↓o_nePtr, ↓o_eqPtr', ↓o_eqSl, ↓o_neSl, ↓o_eqStr, ↓o_neStr, ↓o_len, ↓o_lenS, ↓o_min, ↓o_max, ↓o_extract, ↓o_convInt, ↓cd_true, ↓cd_false, ↓gate_tt, ↓gate_ff, ↓gate_tf, ↓gate_ft, ↓gate_undef, ↓o_bind, ↓stay_v, ↓pop_cons, ↓fin_nil, Option.isNone_none, Option.isNone_some, Bool.not_true, Bool.not_false, Nat.zero_add, decide_true, decide_false, if_true, if_false, Bool.false_eq_true, ↓reduceIte]
        refine ld_in (b := xb) (v := .int .i64 x.since) h rfl ?_
        try simp only [↓o_nil, ↓o_field, ↓o_add, ↓o_sub, ↓o_mul, ↓o_lss, ↓o_leq, ↓o_gtr, ↓o_geq, ↓o_not, ↓o_pick, ↓o_eqInt, ↓o_neInt, ↓o_eqBool, ↓o_neBool, ↓o_eqPtr, ↓o_nePtr, ↓o_eqPtr', ↓o_eqSl, ↓o_neSl, ↓o_eqStr, ↓o_neStr, ↓o_len, ↓o_lenS, ↓o_min, ↓o_max, ↓o_extract, ↓o_convInt, ↓cd_true, ↓cd_false, ↓gate_tt, ↓gate_ff, ↓gate_tf, ↓gate_ft, ↓gate_undef, ↓o_bind, ↓stay_v, ↓pop_cons, ↓fin_nil, Option.isNone_none, Option.isNone_some, Bool.not_true, Bool.not_false, Nat.zero_add, decide_true, decide_false, if_true, if_false, Bool.false_eq_true, ↓reduceIte]
        refine ld_in (b := yb) (v := .int .i64 y.since) h rfl ?_
        rw [e2]
        simp only [t0, ↓o_nil, ↓o_field, ↓o_add, ↓o_sub, ↓o_mul, ↓o_lss, ↓o_leq, ↓o_gtr, ↓o_geq, ↓o_not, ↓o_pick, ↓o_eqInt, ↓o_neInt, ↓o_eqBool, ↓o_neBool, ↓o_eqPtr, ↓o_nePtr, ↓o_eqPtr', ↓o_eqSl, ↓o_neSl, ↓o_eqStr, ↓o_neStr, ↓o_len, ↓o_lenS, ↓o_min, ↓o_max, ↓o_extract, ↓o_convInt, ↓cd_true, ↓cd_false, ↓gate_tt, ↓gate_ff, ↓gate_tf, ↓gate_ft, ↓gate_undef, ↓o_bind, ↓stay_v, ↓pop_cons, ↓fin_nil, Option.isNone_none, Option.isNone_some, Bool.not_true, Bool.not_false, Nat.zero_add, decide_true, decide_false, if_true, if_false, Bool.false_eq_true, ↓reduceIte]
        refine ld_part (b := xb) h (ocells x.own) rfl rfl ?_
        try simp only [↓o_nil, ↓o_field, ↓o_add, ↓o_sub, ↓o_mul, ↓o_lss, ↓o_leq, ↓o_gtr, ↓o_geq, ↓o_not, ↓o_pick, ↓o_eqInt, ↓o_neInt, ↓o_eqBool, ↓o_neBool, ↓o_eqPtr, ↓o_nePtr, ↓o_eqPtr', ↓o_eqSl, ↓o_neSl, ↓o_eqStr, ↓o_neStr, ↓o_len, ↓o_lenS, ↓o_min, ↓o_max, ↓o_extract, ↓o_convInt, ↓cd_true, ↓cd_false, ↓gate_tt, ↓gate_ff, ↓gate_tf, ↓gate_ft, ↓gate_undef, ↓o_bind, ↓stay_v, ↓pop_cons, ↓fin_nil, Option.isNone_none, Option.isNone_some, Bool.not_true, Bool.not_false, Nat.zero_add, decide_true, decide_false, if_true, if_false, Bool.false_eq_true, ↓reduceIte]
        refine ld_part (b := yb) h (ocells y.own) rfl rfl ?_
        rw [e3, neq23, show (!decide (y.own = y.own)) = false by simp]
        simp only [↓o_nil, ↓o_field, ↓o_add, ↓o_sub, ↓o_mul, ↓o_lss, ↓o_leq, ↓o_gtr, ↓o_geq, ↓o_not, ↓o_pick, ↓o_eqInt, ↓o_neInt, ↓o_eqBool, ↓o_neBool, ↓o_eqPtr, ↓o_nePtr, ↓o_eqPtr', ↓o_eqSl, ↓o_neSl, ↓o_eqStr, ↓o_neStr, ↓o_len, ↓o_lenS, ↓o_min, ↓o_max, ↓o_extract, ↓o_convInt, ↓cd_true, ↓cd_false, ↓gate_tt, ↓gate_ff, ↓gate_tf, ↓gate_ft, ↓gate_undef, ↓o_bind, ↓stay_v, ↓pop_cons, ↓fin_nil, Option.isNone_none, Option.isNone_some, Bool.not_true, Bool.not_false, Nat.zero_add, decide_true, decide_false, if_true, if_false, Bool.false_eq_true, ↓reduceIte]
        refine hkj _ _ ⟨n', s', t', rfl, by omega, d1, d2, ok1, ok2, m2, ?_⟩
        have h := h.perm (show _ = pts xb (.cells (scells x).toArray 25 (0, 0)) * (pts yb (.cells (scells y).toArray 25 (0, 0)) * two p a q b s' t' (boxO ob oU * (boxO pb oV * H))) by unfold two tI; ac_rfl)
        exact h.drop.drop
      · rw [cd_true]
        refine ld_agg (b := pb) (xs := ocells oV) h rfl ?_
        refine Begin_spec oks (by omega) ⟨by decide, by decide⟩ h fun w h => ?_
        refine hkj _ _ ⟨n', _, t, rfl, by omega, begin_noted nV ts (by omega), by omega, ok_begin oks, ok_up okt, ?_, h⟩
        rw [begin_other nV ts (by omega) (by decide)]
        exact hm2
    · clear h
      rintro σ w ⟨n', s', t', rfl, hn', a1, a2, a3, a4, a5, h⟩
      rw [pop_cons, fin_nil]
      try rw [o_add]
      rw [i64_of (by omega) (by omega)]
      exact hag (40 - (i + 1)) _ _ (by omega) ⟨i + 1, n', s', t', rfl, rfl, by omega, hn', a1, a2, a3, a4, a5, h⟩
  · have ts : timeE s n = 0 := time_le (by omega) (by omega) (by omega)
    have tt : timeE t n = 0 := time_le (by omega) (by omega) (by omega)
    refine ld_agg (b := ob) (xs := ocells oU) h rfl ?_
    refine Live_spec oks (by omega) h (fun he => absurd ts he) fun _ u1 w h => ?_
    rw [o_extract, o_extract]
    refine ld_agg (b := ob) (xs := ocells oU) h rfl ?_
    have h : sat E w (tI q t b (osl 25 5 u1 (liveL s oU n).length (svs (liveL s oU n)) * tI p s a (boxO ob oU * (boxO pb oV * H)))) := by
      unfold tI at h ⊢
      exact h.perm (by ac_rfl)
    refine Live_spec okt (by omega) h (fun he => absurd tt he) fun _ u2 w h => ?_
    rw [o_extract, o_extract]
    have h := h.perm (show _ = osl 25 5 u1 (liveL s oU n).length (svs (liveL s oU n)) * (osl 25 5 u2 (liveL t oU n).length (svs (liveL t oU n)) * two p a q b s t (boxO ob oU * (boxO pb oV * H))) by unfold two tI; ac_rfl)
    have ll : (liveL s oU n).length = (liveL t oU n).length := by rw [live_len, live_len, hm2]
    obtain ⟨a1, c1, rfl, _, _, _⟩ := osl_shape h
    obtain ⟨a2, c2, rfl, _, _, _⟩ := osl_shape (h.perm (by ac_rfl : _ = osl 25 5 u2 (liveL t oU n).length (svs (liveL t oU n)) * (osl 25 5 (.slice a1 (liveL s oU n).length c1) (liveL s oU n).length (svs (liveL s oU n)) * two p a q b s t (boxO ob oU * (boxO pb oV * H)))))
    rw [ll]
    simp only [t0, ↓o_nil, ↓o_field, ↓o_add, ↓o_sub, ↓o_mul, ↓o_lss, ↓o_leq, ↓o_gtr, ↓o_geq, ↓o_not, ↓o_pick, ↓o_eqInt, ↓o_neInt, ↓o_eqBool, ↓o_neBool, ↓o_eqPtr, ↓o_nePtr, ↓o_eqPtr', ↓o_eqSl, ↓o_neSl, ↓o_eqStr, ↓o_neStr, ↓o_len, ↓o_lenS, ↓o_min, ↓o_max, ↓o_extract, ↓o_convInt, ↓cd_true, ↓cd_false, ↓gate_tt, ↓gate_ff, ↓gate_tf, ↓gate_ft, ↓gate_undef, ↓o_bind, ↓stay_v, ↓pop_cons, ↓fin_nil, Option.isNone_none, Option.isNone_some, Bool.not_true, Bool.not_false, Nat.zero_add, decide_true, decide_false, if_true, if_false, Bool.false_eq_true, ↓reduceIte]
    unfold two tI at h
    exact k w h.drop.drop.drop.drop.drop.drop.drop.drop
end Go.Proofs.YticbbnjhiiimcaaDoor.Apart
