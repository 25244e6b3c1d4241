/-
  The reference's table: begun, ended, swept.
-/
import Derived.Test.YticbbnjhiiimcaaDoorSesR
set_option linter.all false
set_option maxRecDepth 100000
namespace Go.Proofs.YticbbnjhiiimcaaDoor
open Go Hold
variable {E : World0} {w : World} {H R X : HP} {K : Value → World → Prop}
theorem Rdrop_spec {q m : Nat} {t : Tb} {v : Value} {id : Int} (ok : OkT t m) (hm : m ≤ 1000000) (h : sat E w (tR q t v R))
    (k : ∀ v' w', sat E w' (tR q ⟨t.next, t.noted, drop1 t.l id⟩ v' (pers (immS v t.l.length (svs t.l)) * R)) → K (.tuple #[]) w') : Calls prog 44 #[.pointer (some ⟨q, 0, none⟩), .int .i64 id] w (Ret K) := by
  have := ok.few
  obtain ⟨va, vc, rfl, hvc, hv, _⟩ := (rds_tR (t := t)).shape h
  refine c44 ?_
  unfold B44
  refine lp_nat (fun r σ w => ∃ (i : Nat) (out : Value), σ = [out, .int .i64 (i : Int)] ∧ r = t.l.length - i ∧ i ≤ t.l.length ∧
      sat E w (osl 25 5 out (drop1 (t.l.take i) id).length (svs (drop1 (t.l.take i) id)) * tR q t (.slice va t.l.length vc) R)) t.l.length ⟨0, _, rfl, by omega, by omega, by simpa [drop1, svs] using osl_nil h 25 5⟩ ?_
  clear h
  rintro r σ w again ⟨i, out, rfl, rfl, hi, h⟩ hag
  have hlf : (drop1 (t.l.take i) id).length ≤ i := Nat.le_trans (List.length_filter_le _ _) (by simp; omega)
  rw [pop_cons, pop_cons, fin_nil]
  try simp only [↓o_nil, ↓o_field, ↓o_add, ↓o_sub, ↓o_mul, ↓o_lss, ↓o_leq, ↓o_gtr, ↓o_geq, ↓o_not, ↓o_pick, ↓o_eqInt, ↓o_neInt, ↓o_eqBool, ↓o_neBool, ↓o_eqPtr, ↓o_nePtr, ↓o_eqPtr', ↓o_eqSl, ↓o_neSl, ↓o_eqStr, ↓o_neStr, ↓o_len, ↓o_lenS, ↓o_min, ↓o_max, ↓o_extract, ↓o_convInt, ↓cd_true, ↓cd_false, ↓gate_tt, ↓gate_ff, ↓gate_tf, ↓gate_ft, ↓gate_undef, ↓o_bind, ↓stay_v, ↓pop_cons, ↓fin_nil, Option.isNone_none, Option.isNone_some, Bool.not_true, Bool.not_false, Nat.zero_add, decide_true, decide_false, if_true, if_false, Bool.false_eq_true, ↓reduceIte]
  refine ld_in (b := q) (v := .slice va t.l.length vc) h rfl ?_
  rw [o_len, o_lss]
  refine cd_dec (fun hlt => ?_) (fun hge => ?_)
  · have hi1 : i < t.l.length := by omega
    have hx : t.l[i]? = some t.l[i] := List.getElem?_eq_getElem hi1
    have htk : t.l.take (i + 1) = t.l.take i ++ [t.l[i]] := List.take_succ_eq_append_getElem hi1
    generalize t.l[i] = x at hx htk
    obtain ⟨b', o, c', e, hc', hrd⟩ := hv.opened h.drop (by rw [svs_length]; omega)
    cases e
    refine jn_cut (fun σ w => ∃ out', σ = [out'] ∧ sat E w (osl 25 5 out' (drop1 (t.l.take (i + 1)) id).length (svs (drop1 (t.l.take (i + 1)) id)) * tR q t (.slice (some ⟨b', o, none⟩) t.l.length vc) R)) (fun kj hkj => ?_) ?_
    · try simp only [↓o_nil, ↓o_field, ↓o_add, ↓o_sub, ↓o_mul, ↓o_lss, ↓o_leq, ↓o_gtr, ↓o_geq, ↓o_not, ↓o_pick, ↓o_eqInt, ↓o_neInt, ↓o_eqBool, ↓o_neBool, ↓o_eqPtr, ↓o_nePtr, ↓o_eqPtr', ↓o_eqSl, ↓o_neSl, ↓o_eqStr, ↓o_neStr, ↓o_len, ↓o_lenS, ↓o_min, ↓o_max, ↓o_extract, ↓o_convInt, ↓cd_true, ↓cd_false, ↓gate_tt, ↓gate_ff, ↓gate_tf, ↓gate_ft, ↓gate_undef, ↓o_bind, ↓stay_v, ↓pop_cons, ↓fin_nil, Option.isNone_none, Option.isNone_some, Bool.not_true, Bool.not_false, Nat.zero_add, decide_true, decide_false, if_true, if_false, Bool.false_eq_true, ↓reduceIte]
      refine ld_in (b := q) (v := .slice (some ⟨b', o, none⟩) t.l.length vc) h rfl ?_
      rw [o_index (by omega) (by omega), o_field]
      refine ld_rd h hrd.right (i * 5 + 0) (by rw [Int.toNat_natCast]; omega) (svs_cell (f := 0) hx rfl) ?_
      rw [o_neInt]
      by_cases he : x.id = id
      · rw [show (!decide (x.id = id)) = false by simp [he], cd_false]
        refine hkj _ _ ⟨out, rfl, ?_⟩
        have e9 : drop1 (t.l.take (i + 1)) id = drop1 (t.l.take i) id := by rw [htk]; unfold drop1; rw [List.filter_append]; simp [he]
        rw [e9]
        exact h
      · rw [show (!decide (x.id = id)) = true by simp [he], cd_true]
        try simp only [↓o_nil, ↓o_field, ↓o_add, ↓o_sub, ↓o_mul, ↓o_lss, ↓o_leq, ↓o_gtr, ↓o_geq, ↓o_not, ↓o_pick, ↓o_eqInt, ↓o_neInt, ↓o_eqBool, ↓o_neBool, ↓o_eqPtr, ↓o_nePtr, ↓o_eqPtr', ↓o_eqSl, ↓o_neSl, ↓o_eqStr, ↓o_neStr, ↓o_len, ↓o_lenS, ↓o_min, ↓o_max, ↓o_extract, ↓o_convInt, ↓cd_true, ↓cd_false, ↓gate_tt, ↓gate_ff, ↓gate_tf, ↓gate_ft, ↓gate_undef, ↓o_bind, ↓stay_v, ↓pop_cons, ↓fin_nil, Option.isNone_none, Option.isNone_some, Bool.not_true, Bool.not_false, Nat.zero_add, decide_true, decide_false, if_true, if_false, Bool.false_eq_true, ↓reduceIte]
        refine ld_in (b := q) (v := .slice (some ⟨b', o, none⟩) t.l.length vc) h rfl ?_
        rw [o_index (by omega) (by omega)]
        refine ld_el h hrd.right (i * 5) (by simp) (scells x) rfl (svs_at hx) ?_
        refine buildSlice_sl (e := 25) (cs := (scells x).toArray) h (fun w => by kernel_rfl) fun b5 w h => ?_
        refine append_sl (v := out) h (scells x) (k' := 1) rfl (.inr ⟨b5, 0, _, _, _, rfl, h.pts_get, fun j v hj => by simpa using hj⟩) (scells_one x) (by omega) (by omega) fun v' w h => ?_
        refine hkj _ _ ⟨v', rfl, ?_⟩
        have h := h.lose b5
        have e9 : drop1 (t.l.take (i + 1)) id = drop1 (t.l.take i) id ++ [x] := by rw [htk]; unfold drop1; rw [List.filter_append]; simp [he]
        rw [e9, svs_append, List.length_append]
        simpa [svs] using h
    · clear h
      rintro σ w ⟨out', rfl, h⟩
      rw [pop_cons, fin_nil]
      try rw [o_add]
      rw [i64_of (by omega) (by omega)]
      exact hag (t.l.length - (i + 1)) _ _ (by omega) ⟨i + 1, out', rfl, rfl, by omega, h⟩
  · have hi2 : i = t.l.length := by omega
    subst hi2
    rw [List.take_length] at h
    try simp only [↓o_nil, ↓o_field, ↓o_add, ↓o_sub, ↓o_mul, ↓o_lss, ↓o_leq, ↓o_gtr, ↓o_geq, ↓o_not, ↓o_pick, ↓o_eqInt, ↓o_neInt, ↓o_eqBool, ↓o_neBool, ↓o_eqPtr, ↓o_nePtr, ↓o_eqPtr', ↓o_eqSl, ↓o_neSl, ↓o_eqStr, ↓o_neStr, ↓o_len, ↓o_lenS, ↓o_min, ↓o_max, ↓o_extract, ↓o_convInt, ↓cd_true, ↓cd_false, ↓gate_tt, ↓gate_ff, ↓gate_tf, ↓gate_ft, ↓gate_undef, ↓o_bind, ↓stay_v, ↓pop_cons, ↓fin_nil, Option.isNone_none, Option.isNone_some, Bool.not_true, Bool.not_false, Nat.zero_add, decide_true, decide_false, if_true, if_false, Bool.false_eq_true, ↓reduceIte]
    have hone : out.oneCell' = true := by
      obtain ⟨_, _, rfl, _⟩ := osl_shape h
      rfl
    refine store_sl (b := q) h hone (by simp [rtcells]) fun w h => ?_
    refine k out w (tR_mk ?_)
    exact h.perm (by
      simp only [rtcells, List.set_cons_zero, List.set_cons_succ]
      try ac_rfl)
theorem drop1_gone {t : Tb} {m : Nat} {id : Int} (ok : OkT t m) (h : (findT t id).2 ≠ 0) : drop1 t.l id = t.l := by
  refine drop1_none fun y hy hid => h ?_
  have hx := ok.all y hy
  unfold findT
  rw [if_neg (by have := hx.id1; have := hx.id2; omega)]
  obtain ⟨j, hj, ej⟩ := List.getElem_of_mem hy
  have := findS_at ok.rise (i := j) (x := y) (by rw [List.getElem?_eq_getElem hj, ej])
  rw [hid] at this
  rw [this]
theorem REnd_spec {q m : Nat} {t : Tb} {v : Value} {id : Int} (ok : OkT t m) (hm : m ≤ 1000000) (h : sat E w (tR q t v R))
    (k : ∀ v' w', sat E w' (tR q (endT t id).1 v' R) → K (.int .i64 (endT t id).2) w') : Calls prog 28 #[.pointer (some ⟨q, 0, none⟩), .int .i64 id] w (Ret K) := by
  have := ok.few
  refine c28 ?_
  unfold B28
  simp only [↓o_eqPtr, Option.isNone_some, ↓cd_false]
  have same : (findT t id).2 ≠ 0 → endT t id = (t, (findT t id).2) := fun he => by
    unfold endT
    rw [drop1_gone ok he]
  refine Rfind_spec (id := id) (by omega) h (fun hx => ?_) (fun hx hf => ?_) (fun hx i x hi hid hf => ?_)
  · have e : (findT t id).2 = 4 := by unfold findT; rw [if_pos hx]
    rw [o_extract, o_extract, o_neInt, show (!decide ((4 : Int) = 0)) = true from rfl, cd_true]
    have := k v w
    rw [same (by rw [e]; decide), e] at this
    exact this h
  · have e : (findT t id).2 = 12 := by unfold findT; rw [if_neg hx, hf]
    rw [o_extract, o_extract, o_neInt, show (!decide ((12 : Int) = 0)) = true from rfl, cd_true]
    have := k v w
    rw [same (by rw [e]; decide), e] at this
    exact this h
  · have e : (findT t id).2 = 0 := by unfold findT; rw [if_neg hx, hf]
    rw [o_extract, o_extract, o_neInt, show (!decide ((0 : Int) = 0)) = false from rfl, cd_false]
    refine Rdrop_spec ok hm h fun v' w h => ?_
    have := k v' w (tR_out h).drop
    have e2 : (endT t id).2 = 0 := e
    rw [e2] at this
    exact this
def ran (l : List Ses) (f : Ses → Bool) (i : Nat) : List Int := ((l.take i).filter f).map (·.id)
theorem ran_succ {l : List Ses} {f : Ses → Bool} {i : Nat} {x : Ses} (hx : l[i]? = some x) : ran l f (i + 1) = ran l f i ++ (if f x then [x.id] else []) := by
  have hlt := (List.getElem?_eq_some_iff.1 hx).1
  have : l[i] = x := (List.getElem?_eq_some_iff.1 hx).2
  unfold ran
  rw [List.take_succ_eq_append_getElem hlt, List.filter_append, List.map_append, this]
  by_cases h : f x = true
  · simp [h]
  · simp [h]
theorem ran_length (l : List Ses) (f : Ses → Bool) (i : Nat) : (ran l f i).length ≤ i := by
  unfold ran
  rw [List.length_map]
  exact Nat.le_trans (List.length_filter_le _ _) (by simp; omega)
theorem drops_nil (l : List Ses) : drops l [] = l := List.filter_eq_self.2 fun x _ => by simp
theorem ok_drops {t : Tb} {m : Nat} (ok : OkT t m) (ids : List Int) : OkT ⟨t.next, t.noted, drops t.l ids⟩ m := ok_sub ok List.filter_sublist
theorem REndAll_spec {q m : Nat} {t : Tb} {v : Value} {o : Own2} (ok : OkT t m) (hm : m ≤ 1000000) (h : sat E w (tR q t v R))
    (k : ∀ u v' w', sat E w' (osl 3 1 u (endAllT t o).2.length ((endAllT t o).2.map iv) * tR q (endAllT t o).1 v' R) → K u w') : Calls prog 31 #[.pointer (some ⟨q, 0, none⟩), .agg (ocells o).toArray] w (Ret K) := by
  have := ok.few
  refine c31 ?_
  unfold B31
  refine box_sl h fun ob w h => ?_
  have h : sat E w (boxO ob o * tR q t v R) := h
  obtain ⟨va, vc, rfl, hvc, hv, _⟩ := (rds_tR (t := t)).shape h.drop
  simp only [↓o_eqPtr, Option.isNone_some, ↓cd_false]
  try simp only [↓o_nil, ↓o_field, ↓o_add, ↓o_sub, ↓o_mul, ↓o_lss, ↓o_leq, ↓o_gtr, ↓o_geq, ↓o_not, ↓o_pick, ↓o_eqInt, ↓o_neInt, ↓o_eqBool, ↓o_neBool, ↓o_eqPtr, ↓o_nePtr, ↓o_eqPtr', ↓o_eqSl, ↓o_neSl, ↓o_eqStr, ↓o_neStr, ↓o_len, ↓o_lenS, ↓o_min, ↓o_max, ↓o_extract, ↓o_convInt, ↓cd_true, ↓cd_false, ↓gate_tt, ↓gate_ff, ↓gate_tf, ↓gate_ft, ↓gate_undef, ↓o_bind, ↓stay_v, ↓pop_cons, ↓fin_nil, Option.isNone_none, Option.isNone_some, Bool.not_true, Bool.not_false, Nat.zero_add, decide_true, decide_false, if_true, if_false, Bool.false_eq_true, ↓reduceIte]
  refine ld_in (b := q) (v := .slice va t.l.length vc) h rfl ?_
  have h : sat E w (pers (immS (.slice va t.l.length vc) t.l.length (svs t.l)) * (boxO ob o * tR q t (.slice va t.l.length vc) R)) := by
    have h := h.perm (show _ = pers (immS (.slice va t.l.length vc) t.l.length (svs t.l)) * (boxO ob o * (pts q (.cells (rtcells t (.slice va t.l.length vc)).toArray 63 (0, 0)) * R)) by unfold tR; ac_rfl)
    have h := h.pers_dup
    exact h.perm (by unfold tR; ac_rfl)
  have hv0 : ∀ (X : HP), Rds (X * (pers (immS (.slice va t.l.length vc) t.l.length (svs t.l)) * (boxO ob o * X))) (.slice va t.l.length vc) t.l.length (svs t.l) := fun X => Rds.pers.left.right
  refine lp_nat (fun r σ w => ∃ (i : Nat) (out v' : Value), σ = [out, .int .i64 (i : Int)] ∧ r = t.l.length - i ∧ i ≤ t.l.length ∧
      sat E w (osl 3 1 out (ran t.l (fun x => decide (x.own = o)) i).length ((ran t.l (fun x => decide (x.own = o)) i).map iv) * (pers (immS (.slice va t.l.length vc) t.l.length (svs t.l)) * (boxO ob o * tR q ⟨t.next, t.noted, drops t.l (ran t.l (fun x => decide (x.own = o)) i)⟩ v' R)))) t.l.length
    ⟨0, _, _, rfl, by omega, by omega, by
      have e : ran t.l (fun x => decide (x.own = o)) 0 = [] := by simp [ran]
      rw [e, drops_nil]
      exact osl_nil h 3 1⟩ ?_
  clear h
  rintro r σ w again ⟨i, out, v', rfl, rfl, hi, h⟩ hag
  have hrl := ran_length t.l (fun x => decide (x.own = o)) i
  rw [pop_cons, pop_cons, fin_nil, o_len, o_lss]
  refine cd_dec (fun hlt => ?_) (fun hge => ?_)
  · have hi1 : i < t.l.length := by omega
    have hx : t.l[i]? = some t.l[i] := List.getElem?_eq_getElem hi1
    have hrs := ran_succ (f := fun x => decide (x.own = o)) hx
    generalize t.l[i] = x at hx hrs
    have hrd0 : Rds (pers (immS (.slice va t.l.length vc) t.l.length (svs t.l)) * (boxO ob o * tR q ⟨t.next, t.noted, drops t.l (ran t.l (fun x => decide (x.own = o)) i)⟩ v' R)) (.slice va t.l.length vc) t.l.length (svs t.l) := Rds.pers.left
    obtain ⟨b', o', c', e, hc', hrd⟩ := hrd0.opened h.drop (by rw [svs_length]; omega)
    cases e
    have ix : ∀ {w : World} {K : Value → World → Prop}, pvv prog (Instr.indexAt 37 (.slice (some ⟨b', o', none⟩) t.l.length vc) (.int .i64 (i : Int))) w K = K (.pointer (some ⟨b', o' + i * 5, none⟩)) w := fun {w K} => by
      rw [o_index (by omega) (by omega), Int.toNat_natCast]
    refine jn_cut (fun σ w => ∃ out' v', σ = [out'] ∧ sat E w (osl 3 1 out' (ran t.l (fun x => decide (x.own = o)) (i + 1)).length ((ran t.l (fun x => decide (x.own = o)) (i + 1)).map iv) * (pers (immS (.slice (some ⟨b', o', none⟩) t.l.length vc) t.l.length (svs t.l)) * (boxO ob o * tR q ⟨t.next, t.noted, drops t.l (ran t.l (fun x => decide (x.own = o)) (i + 1))⟩ v' R)))) (fun kj hkj => ?_) ?_
    · refine dr_sl h fun w h _ => ?_
      try simp only [ix, ↓o_nil, ↓o_field, ↓o_add, ↓o_sub, ↓o_mul, ↓o_lss, ↓o_leq, ↓o_gtr, ↓o_geq, ↓o_not, ↓o_pick, ↓o_eqInt, ↓o_neInt, ↓o_eqBool, ↓o_neBool, ↓o_eqPtr, ↓o_nePtr, ↓o_eqPtr', ↓o_eqSl, ↓o_neSl, ↓o_eqStr, ↓o_neStr, ↓o_len, ↓o_lenS, ↓o_min, ↓o_max, ↓o_extract, ↓o_convInt, ↓cd_true, ↓cd_false, ↓gate_tt, ↓gate_ff, ↓gate_tf, ↓gate_ft, ↓gate_undef, ↓o_bind, ↓stay_v, ↓pop_cons, ↓fin_nil, Option.isNone_none, Option.isNone_some, Bool.not_true, Bool.not_false, Nat.zero_add, decide_true, decide_false, if_true, if_false, Bool.false_eq_true, ↓reduceIte]
      have hown : ((svs t.l).drop (i * 5 + 1)).take 2 = ocells x.own := by
        rw [← List.drop_drop]
        have := svs_at hx
        have e : ((svs t.l).drop (i * 5)).drop 1 = ((svs t.l).drop (i * 5)).drop 1 := rfl
        calc (((svs t.l).drop (i * 5)).drop 1).take 2 = ((((svs t.l).drop (i * 5)).take 5).drop 1).take 2 := by rw [List.drop_take, List.take_take]; rfl
          _ = ocells x.own := by rw [this]; rfl
      refine ld_el h (Rds.right hrd) (i * 5 + 1) (by omega) (ocells x.own) rfl hown ?_
      refine ld_agg (b := ob) h rfl ?_
      rw [eq23]
      by_cases he : x.own = o
      · rw [decide_eq_true he, cd_true]
        rw [if_pos (decide_eq_true he)] at hrs
        try simp only [ix, ↓o_nil, ↓o_field, ↓o_add, ↓o_sub, ↓o_mul, ↓o_lss, ↓o_leq, ↓o_gtr, ↓o_geq, ↓o_not, ↓o_pick, ↓o_eqInt, ↓o_neInt, ↓o_eqBool, ↓o_neBool, ↓o_eqPtr, ↓o_nePtr, ↓o_eqPtr', ↓o_eqSl, ↓o_neSl, ↓o_eqStr, ↓o_neStr, ↓o_len, ↓o_lenS, ↓o_min, ↓o_max, ↓o_extract, ↓o_convInt, ↓cd_true, ↓cd_false, ↓gate_tt, ↓gate_ff, ↓gate_tf, ↓gate_ft, ↓gate_undef, ↓o_bind, ↓stay_v, ↓pop_cons, ↓fin_nil, Option.isNone_none, Option.isNone_some, Bool.not_true, Bool.not_false, Nat.zero_add, decide_true, decide_false, if_true, if_false, Bool.false_eq_true, ↓reduceIte]
        refine ld_rd h (Rds.right hrd) (i * 5 + 0) (by omega) (svs_cell (f := 0) hx rfl) ?_
        refine push_sl (v := out) h rfl rfl (by omega) (by omega) fun v2 w h => ?_
        try simp only [ix, ↓o_nil, ↓o_field, ↓o_add, ↓o_sub, ↓o_mul, ↓o_lss, ↓o_leq, ↓o_gtr, ↓o_geq, ↓o_not, ↓o_pick, ↓o_eqInt, ↓o_neInt, ↓o_eqBool, ↓o_neBool, ↓o_eqPtr, ↓o_nePtr, ↓o_eqPtr', ↓o_eqSl, ↓o_neSl, ↓o_eqStr, ↓o_neStr, ↓o_len, ↓o_lenS, ↓o_min, ↓o_max, ↓o_extract, ↓o_convInt, ↓cd_true, ↓cd_false, ↓gate_tt, ↓gate_ff, ↓gate_tf, ↓gate_ft, ↓gate_undef, ↓o_bind, ↓stay_v, ↓pop_cons, ↓fin_nil, Option.isNone_none, Option.isNone_some, Bool.not_true, Bool.not_false, Nat.zero_add, decide_true, decide_false, if_true, if_false, Bool.false_eq_true, ↓reduceIte]
        refine ld_rd h (Rds.right hrd) (i * 5 + 0) (by omega) (svs_cell (f := 0) hx rfl) ?_
        have h := h.perm (show _ = tR q ⟨t.next, t.noted, drops t.l (ran t.l (fun x => decide (x.own = o)) i)⟩ v' (osl 3 1 v2 ((ran t.l (fun x => decide (x.own = o)) i).length + 1) ((ran t.l (fun x => decide (x.own = o)) i).map iv ++ [.int .i64 x.id]) * (pers (immS (.slice (some ⟨b', o', none⟩) t.l.length vc) t.l.length (svs t.l)) * (boxO ob o * R))) by unfold tR; ac_rfl)
        refine Rdrop_spec (ok_drops ok _) hm h fun v3 w h => ?_
        refine hkj _ _ ⟨v2, v3, rfl, ?_⟩
        rw [drops_cons] at h
        have h := (tR_out h).drop
        rw [hrs, List.length_append, List.map_append]
        exact h.perm (by unfold tR; simp only [iv, List.map_cons, List.map_nil, List.length_singleton]; ac_rfl)
      · rw [decide_eq_false he, cd_false]
        rw [if_neg (by simp [he]), List.append_nil] at hrs
        rw [hrs] at hkj
        exact hkj _ _ ⟨out, v', rfl, h⟩
    · clear h
      rintro σ w ⟨out', v3, rfl, h⟩
      rw [pop_cons, fin_nil]
      try rw [o_add]
      rw [i64_of (by omega) (by omega)]
      exact hag (t.l.length - (i + 1)) _ _ (by omega) ⟨i + 1, out', v3, rfl, rfl, by omega, h⟩
  · have hi2 : i = t.l.length := by omega
    subst hi2
    have e : ran t.l (fun x => decide (x.own = o)) t.l.length = (endAllT t o).2 := by unfold ran endAllT; rw [List.take_length]
    rw [e] at h
    have e2 : drops t.l (endAllT t o).2 = (endAllT t o).1.l := drops_filter ok.rise
    rw [e2] at h
    refine k out v' w ?_
    have h := h.perm (show _ = pers (immS (.slice va t.l.length vc) t.l.length (svs t.l)) * (boxO ob o * (osl 3 1 out (endAllT t o).2.length ((endAllT t o).2.map iv) * tR q (endAllT t o).1 v' R)) by unfold tR; ac_rfl)
    exact h.drop.drop
theorem RSweep_spec {q m : Nat} {t : Tb} {v : Value} {now : Int} (ok : OkT t m) (hm : m ≤ 1000000) (h : sat E w (tR q t v R))
    (k0 : timeE t now ≠ 0 → ∀ w', sat E w' (tR q t v R) → K (.tuple #[.slice none 0 0, .int .i64 (timeE t now)]) w')
    (k1 : timeE t now = 0 → ∀ u v' w', sat E w' (osl 3 1 u (sweepT t now).2.length ((sweepT t now).2.map iv) * tR q (sweepT t now).1 v' R) → K (.tuple #[u, .int .i64 0]) w') :
    Calls prog 33 #[.pointer (some ⟨q, 0, none⟩), .int .i64 now] w (Ret K) := by
  have := ok.few
  obtain ⟨va, vc, rfl, hvc, hv, _⟩ := (rds_tR (t := t)).shape h
  refine c33 ?_
  unfold B33
  refine Rtime_spec (q := q) h ?_
  rw [o_neInt]
  by_cases he : timeE t now = 0
  case neg =>
    rw [show (!decide (timeE t now = 0)) = true by simp [he], cd_true]
    exact k0 he w h
  rw [show (!decide (timeE t now = 0)) = false by simp [he], cd_false]
  try simp only [↓o_nil, ↓o_field, ↓o_add, ↓o_sub, ↓o_mul, ↓o_lss, ↓o_leq, ↓o_gtr, ↓o_geq, ↓o_not, ↓o_pick, ↓o_eqInt, ↓o_neInt, ↓o_eqBool, ↓o_neBool, ↓o_eqPtr, ↓o_nePtr, ↓o_eqPtr', ↓o_eqSl, ↓o_neSl, ↓o_eqStr, ↓o_neStr, ↓o_len, ↓o_lenS, ↓o_min, ↓o_max, ↓o_extract, ↓o_convInt, ↓cd_true, ↓cd_false, ↓gate_tt, ↓gate_ff, ↓gate_tf, ↓gate_ft, ↓gate_undef, ↓o_bind, ↓stay_v, ↓pop_cons, ↓fin_nil, Option.isNone_none, Option.isNone_some, Bool.not_true, Bool.not_false, Nat.zero_add, decide_true, decide_false, if_true, if_false, Bool.false_eq_true, ↓reduceIte]
  refine store_sl (b := q) h rfl (by simp [rtcells]) fun w h => ?_
  have ok2 := ok_noted ok he
  have h : sat E w (tR q ⟨t.next, now, t.l⟩ (.slice va t.l.length vc) R) := h
  try simp only [↓o_nil, ↓o_field, ↓o_add, ↓o_sub, ↓o_mul, ↓o_lss, ↓o_leq, ↓o_gtr, ↓o_geq, ↓o_not, ↓o_pick, ↓o_eqInt, ↓o_neInt, ↓o_eqBool, ↓o_neBool, ↓o_eqPtr, ↓o_nePtr, ↓o_eqPtr', ↓o_eqSl, ↓o_neSl, ↓o_eqStr, ↓o_neStr, ↓o_len, ↓o_lenS, ↓o_min, ↓o_max, ↓o_extract, ↓o_convInt, ↓cd_true, ↓cd_false, ↓gate_tt, ↓gate_ff, ↓gate_tf, ↓gate_ft, ↓gate_undef, ↓o_bind, ↓stay_v, ↓pop_cons, ↓fin_nil, Option.isNone_none, Option.isNone_some, Bool.not_true, Bool.not_false, Nat.zero_add, decide_true, decide_false, if_true, if_false, Bool.false_eq_true, ↓reduceIte]
  refine ld_in (b := q) (v := .slice va t.l.length vc) h rfl ?_
  have h : sat E w (pers (immS (.slice va t.l.length vc) t.l.length (svs t.l)) * tR q ⟨t.next, now, t.l⟩ (.slice va t.l.length vc) R) := by
    have h := h.perm (show _ = pers (immS (.slice va t.l.length vc) t.l.length (svs t.l)) * (pts q (.cells (rtcells ⟨t.next, now, t.l⟩ (.slice va t.l.length vc)).toArray 63 (0, 0)) * R) by unfold tR; ac_rfl)
    have h := h.pers_dup
    exact h.perm (by unfold tR; ac_rfl)
  refine lp_nat (fun r σ w => ∃ (i : Nat) (out v' : Value), σ = [out, .int .i64 (i : Int)] ∧ r = t.l.length - i ∧ i ≤ t.l.length ∧
      sat E w (osl 3 1 out (ran t.l (fun x => decide (untilS x ≤ now)) i).length ((ran t.l (fun x => decide (untilS x ≤ now)) i).map iv) * (pers (immS (.slice va t.l.length vc) t.l.length (svs t.l)) * tR q ⟨t.next, now, drops t.l (ran t.l (fun x => decide (untilS x ≤ now)) i)⟩ v' R))) t.l.length
    ⟨0, _, _, rfl, by omega, by omega, by
      have e : ran t.l (fun x => decide (untilS x ≤ now)) 0 = [] := by simp [ran]
      rw [e, drops_nil]
      exact osl_nil h 3 1⟩ ?_
  clear h
  rintro r σ w again ⟨i, out, v', rfl, rfl, hi, h⟩ hag
  have hrl := ran_length t.l (fun x => decide (untilS x ≤ now)) i
  rw [pop_cons, pop_cons, fin_nil, o_len, o_lss]
  refine cd_dec (fun hlt => ?_) (fun hge => ?_)
  · have hi1 : i < t.l.length := by omega
    have hx : t.l[i]? = some t.l[i] := List.getElem?_eq_getElem hi1
    have hrs := ran_succ (f := fun x => decide (untilS x ≤ now)) hx
    generalize t.l[i] = x at hx hrs
    have hrd0 : Rds (pers (immS (.slice va t.l.length vc) t.l.length (svs t.l)) * tR q ⟨t.next, now, drops t.l (ran t.l (fun x => decide (untilS x ≤ now)) i)⟩ v' R) (.slice va t.l.length vc) t.l.length (svs t.l) := Rds.pers.left
    obtain ⟨b', o', c', e, hc', hrd⟩ := hrd0.opened h.drop (by rw [svs_length]; omega)
    cases e
    have ix : ∀ {w : World} {K : Value → World → Prop}, pvv prog (Instr.indexAt 37 (.slice (some ⟨b', o', none⟩) t.l.length vc) (.int .i64 (i : Int))) w K = K (.pointer (some ⟨b', o' + i * 5, none⟩)) w := fun {w K} => by
      rw [o_index (by omega) (by omega), Int.toNat_natCast]
    refine jn_cut (fun σ w => ∃ out' v', σ = [out'] ∧ sat E w (osl 3 1 out' (ran t.l (fun x => decide (untilS x ≤ now)) (i + 1)).length ((ran t.l (fun x => decide (untilS x ≤ now)) (i + 1)).map iv) * (pers (immS (.slice (some ⟨b', o', none⟩) t.l.length vc) t.l.length (svs t.l)) * tR q ⟨t.next, now, drops t.l (ran t.l (fun x => decide (untilS x ≤ now)) (i + 1))⟩ v' R))) (fun kj hkj => ?_) ?_
    · try simp only [ix, ↓o_nil, ↓o_field, ↓o_add, ↓o_sub, ↓o_mul, ↓o_lss, ↓o_leq, ↓o_gtr, ↓o_geq, ↓o_not, ↓o_pick, ↓o_eqInt, ↓o_neInt, ↓o_eqBool, ↓o_neBool, ↓o_eqPtr, ↓o_nePtr, ↓o_eqPtr', ↓o_eqSl, ↓o_neSl, ↓o_eqStr, ↓o_neStr, ↓o_len, ↓o_lenS, ↓o_min, ↓o_max, ↓o_extract, ↓o_convInt, ↓cd_true, ↓cd_false, ↓gate_tt, ↓gate_ff, ↓gate_tf, ↓gate_ft, ↓gate_undef, ↓o_bind, ↓stay_v, ↓pop_cons, ↓fin_nil, Option.isNone_none, Option.isNone_some, Bool.not_true, Bool.not_false, Nat.zero_add, decide_true, decide_false, if_true, if_false, Bool.false_eq_true, ↓reduceIte]
      refine ld_el h (Rds.right hrd) (i * 5) (by omega) (scells x) rfl (svs_at hx) ?_
      refine over_spec h (ok.okR (List.mem_of_getElem? hx)) fun w h => ?_
      refine cd_dec (fun hu => ?_) (fun hu => ?_)
      · rw [if_pos (decide_eq_true hu)] at hrs
        try simp only [ix, ↓o_nil, ↓o_field, ↓o_add, ↓o_sub, ↓o_mul, ↓o_lss, ↓o_leq, ↓o_gtr, ↓o_geq, ↓o_not, ↓o_pick, ↓o_eqInt, ↓o_neInt, ↓o_eqBool, ↓o_neBool, ↓o_eqPtr, ↓o_nePtr, ↓o_eqPtr', ↓o_eqSl, ↓o_neSl, ↓o_eqStr, ↓o_neStr, ↓o_len, ↓o_lenS, ↓o_min, ↓o_max, ↓o_extract, ↓o_convInt, ↓cd_true, ↓cd_false, ↓gate_tt, ↓gate_ff, ↓gate_tf, ↓gate_ft, ↓gate_undef, ↓o_bind, ↓stay_v, ↓pop_cons, ↓fin_nil, Option.isNone_none, Option.isNone_some, Bool.not_true, Bool.not_false, Nat.zero_add, decide_true, decide_false, if_true, if_false, Bool.false_eq_true, ↓reduceIte]
        refine ld_rd h (Rds.right hrd) (i * 5 + 0) (by omega) (svs_cell (f := 0) hx rfl) ?_
        refine push_sl (v := out) h rfl rfl (by omega) (by omega) fun v2 w h => ?_
        try simp only [ix, ↓o_nil, ↓o_field, ↓o_add, ↓o_sub, ↓o_mul, ↓o_lss, ↓o_leq, ↓o_gtr, ↓o_geq, ↓o_not, ↓o_pick, ↓o_eqInt, ↓o_neInt, ↓o_eqBool, ↓o_neBool, ↓o_eqPtr, ↓o_nePtr, ↓o_eqPtr', ↓o_eqSl, ↓o_neSl, ↓o_eqStr, ↓o_neStr, ↓o_len, ↓o_lenS, ↓o_min, ↓o_max, ↓o_extract, ↓o_convInt, ↓cd_true, ↓cd_false, ↓gate_tt, ↓gate_ff, ↓gate_tf, ↓gate_ft, ↓gate_undef, ↓o_bind, ↓stay_v, ↓pop_cons, ↓fin_nil, Option.isNone_none, Option.isNone_some, Bool.not_true, Bool.not_false, Nat.zero_add, decide_true, decide_false, if_true, if_false, Bool.false_eq_true, ↓reduceIte]
        refine ld_rd h (Rds.right hrd) (i * 5 + 0) (by omega) (svs_cell (f := 0) hx rfl) ?_
        have h := h.perm (show _ = tR q ⟨t.next, now, drops t.l (ran t.l (fun x => decide (untilS x ≤ now)) i)⟩ v' (osl 3 1 v2 ((ran t.l (fun x => decide (untilS x ≤ now)) i).length + 1) ((ran t.l (fun x => decide (untilS x ≤ now)) i).map iv ++ [.int .i64 x.id]) * (pers (immS (.slice (some ⟨b', o', none⟩) t.l.length vc) t.l.length (svs t.l)) * R)) by unfold tR; ac_rfl)
        refine Rdrop_spec (ok_drops ok2 _) hm h fun v3 w h => ?_
        refine hkj _ _ ⟨v2, v3, rfl, ?_⟩
        rw [drops_cons] at h
        have h := (tR_out h).drop
        rw [hrs, List.length_append, List.map_append]
        exact h.perm (by unfold tR; simp only [iv, List.map_cons, List.map_nil, List.length_singleton]; ac_rfl)
      · rw [if_neg (by simp [hu]), List.append_nil] at hrs
        rw [hrs] at hkj
        exact hkj _ _ ⟨out, v', rfl, h⟩
    · clear h
      rintro σ w ⟨out', v3, rfl, h⟩
      rw [pop_cons, fin_nil]
      try rw [o_add]
      rw [i64_of (by omega) (by omega)]
      exact hag (t.l.length - (i + 1)) _ _ (by omega) ⟨i + 1, out', v3, rfl, rfl, by omega, h⟩
  · have hi2 : i = t.l.length := by omega
    subst hi2
    have e : ran t.l (fun x => decide (untilS x ≤ now)) t.l.length = (sweepT t now).2 := by unfold ran sweepT; rw [List.take_length]
    rw [e] at h
    have e2 : drops t.l (sweepT t now).2 = (sweepT t now).1.l := drops_filter ok.rise
    rw [e2] at h
    refine k1 he out v' w ?_
    have h := h.perm (show _ = pers (immS (.slice va t.l.length vc) t.l.length (svs t.l)) * (osl 3 1 out (sweepT t now).2.length ((sweepT t now).2.map iv) * tR q (sweepT t now).1 v' R) by unfold tR; ac_rfl)
    exact h.drop
end Go.Proofs.YticbbnjhiiimcaaDoor
