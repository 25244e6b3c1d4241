/-
  The reference's table: begun, live; a deed on both.
-/
import Derived.Test.YticbbnjhiiimcaaDoorSesP
import Derived.Test.YticbbnjhiiimcaaDoorSesO
import Derived.Test.YticbbnjhiiimcaaDoorTests
set_option linter.all false
set_option maxRecDepth 100000
namespace Go.Proofs.YticbbnjhiiimcaaDoor
open Go Hold
variable {E : World0} {w : World} {H R X : HP} {K : Value → World → Prop}
theorem own_at {l : List Ses} {i : Nat} {x : Ses} (hx : l[i]? = some x) : ((svs l).drop (i * 5 + 1)).take 2 = ocells x.own := by
  rw [← List.drop_drop]
  calc (((svs l).drop (i * 5)).drop 1).take 2 = ((((svs l).drop (i * 5)).take 5).drop 1).take 2 := by rw [List.drop_take, List.take_take]; rfl
    _ = ocells x.own := by rw [svs_at hx]; rfl
theorem mine_succ {l : List Ses} {o : Own2} {now : Int} {i : Nat} {x : Ses} (hx : l[i]? = some x) : (l.take (i + 1)).filter (isMine o now) = (l.take i).filter (isMine o now) ++ (if isMine o now x then [x] else []) := by
  have hlt := (List.getElem?_eq_some_iff.1 hx).1
  have : l[i] = x := (List.getElem?_eq_some_iff.1 hx).2
  rw [List.take_succ_eq_append_getElem hlt, List.filter_append, this]
  by_cases h : isMine o now x = true
  · simp [h]
  · simp [h]
theorem RLive_spec {q m : Nat} {t : Tb} {v : Value} {o : Own2} {now : Int} (ok : OkT t m) (hm : m ≤ 1000000) (h : sat E w (tR q t v R))
    (k0 : timeE t now ≠ 0 → ∀ w', sat E w' (tR q t v R) → K (.tuple #[.slice none 0 0, .int .i64 (timeE t now)]) w')
    (k1 : timeE t now = 0 → ∀ u w', sat E w' (osl 25 5 u (liveL t o now).length (svs (liveL t o now)) * tR q t v R) → K (.tuple #[u, .int .i64 0]) w') :
    Calls prog 34 #[.pointer (some ⟨q, 0, none⟩), .agg (ocells o).toArray, .int .i64 now] w (Ret K) := by
  have := ok.few
  obtain ⟨va, vc, rfl, hvc, hv, _⟩ := (rds_tR (t := t)).shape h
  refine c34 ?_
  unfold B34
  refine box_sl h fun ob w h => ?_
  have h : sat E w (boxO ob o * tR q t (.slice va t.l.length vc) R) := h
  refine Rtime_spec (q := q) h ?_
  rw [o_neInt]
  by_cases he : timeE t now = 0
  case neg =>
    rw [show (!decide (timeE t now = 0)) = true by simp [he], cd_true]
    exact k0 he w h.drop
  rw [show (!decide (timeE t now = 0)) = false by simp [he], cd_false]
  refine lp_nat (fun r σ w => ∃ (i : Nat) (out : Value), σ = [out, .int .i64 (i : Int)] ∧ r = t.l.length - i ∧ i ≤ t.l.length ∧
      sat E w (osl 25 5 out ((t.l.take i).filter (isMine o now)).length (svs ((t.l.take i).filter (isMine o now))) * (boxO ob o * tR q t (.slice va t.l.length vc) R))) t.l.length ⟨0, _, rfl, by omega, by omega, by simpa [svs] using osl_nil h 25 5⟩ ?_
  clear h
  rintro r σ w again ⟨i, out, rfl, rfl, hi, h⟩ hag
  have hlf : ((t.l.take i).filter (isMine o now)).length ≤ i := Nat.le_trans (List.length_filter_le _ _) (by simp; omega)
  rw [pop_cons, pop_cons, fin_nil]
  try simp only [↓o_nil, ↓o_field, ↓o_add, ↓o_sub, ↓o_mul, ↓o_lss, ↓o_leq, ↓o_gtr, ↓o_geq, ↓o_not, ↓o_pick, ↓o_eqInt, ↓o_neInt, ↓o_eqBool, ↓o_neBool, ↓o_eqPtr, ↓o_nePtr, ↓o_eqPtr', ↓o_eqSl, ↓o_neSl, ↓o_eqStr, ↓o_neStr, ↓o_len, ↓o_lenS, ↓o_min, ↓o_max, ↓o_extract, ↓o_convInt, ↓cd_true, ↓cd_false, ↓gate_tt, ↓gate_ff, ↓gate_tf, ↓gate_ft, ↓gate_undef, ↓o_bind, ↓stay_v, ↓pop_cons, ↓fin_nil, Option.isNone_none, Option.isNone_some, Bool.not_true, Bool.not_false, Nat.zero_add, decide_true, decide_false, if_true, if_false, Bool.false_eq_true, ↓reduceIte]
  refine ld_in (b := q) (v := .slice va t.l.length vc) h rfl ?_
  rw [o_len, o_lss]
  refine cd_dec (fun hlt => ?_) (fun hge => ?_)
  · have hi1 : i < t.l.length := by omega
    have hx : t.l[i]? = some t.l[i] := List.getElem?_eq_getElem hi1
    have hms := mine_succ (o := o) (now := now) hx
    generalize t.l[i] = x at hx hms
    obtain ⟨b', o', c', e, hc', hrd⟩ := hv.opened h.drop.drop (by rw [svs_length]; omega)
    cases e
    have ix : ∀ {w : World} {K : Value → World → Prop}, pvv prog (Instr.indexAt 37 (.slice (some ⟨b', o', none⟩) t.l.length vc) (.int .i64 (i : Int))) w K = K (.pointer (some ⟨b', o' + i * 5, none⟩)) w := fun {w K} => by
      rw [o_index (by omega) (by omega), Int.toNat_natCast]
    refine jn_cut (fun σ w => ∃ out', σ = [out'] ∧ sat E w (osl 25 5 out' ((t.l.take (i + 1)).filter (isMine o now)).length (svs ((t.l.take (i + 1)).filter (isMine o now))) * (boxO ob o * tR q t (.slice (some ⟨b', o', none⟩) t.l.length vc) R))) (fun kj hkj => ?_) ?_
    · refine dr_sl h fun w h _ => ?_
      try simp only [ix, ↓o_nil, ↓o_field, ↓o_add, ↓o_sub, ↓o_mul, ↓o_lss, ↓o_leq, ↓o_gtr, ↓o_geq, ↓o_not, ↓o_pick, ↓o_eqInt, ↓o_neInt, ↓o_eqBool, ↓o_neBool, ↓o_eqPtr, ↓o_nePtr, ↓o_eqPtr', ↓o_eqSl, ↓o_neSl, ↓o_eqStr, ↓o_neStr, ↓o_len, ↓o_lenS, ↓o_min, ↓o_max, ↓o_extract, ↓o_convInt, ↓cd_true, ↓cd_false, ↓gate_tt, ↓gate_ff, ↓gate_tf, ↓gate_ft, ↓gate_undef, ↓o_bind, ↓stay_v, ↓pop_cons, ↓fin_nil, Option.isNone_none, Option.isNone_some, Bool.not_true, Bool.not_false, Nat.zero_add, decide_true, decide_false, if_true, if_false, Bool.false_eq_true, ↓reduceIte]
      refine ld_in (b := q) (v := .slice (some ⟨b', o', none⟩) t.l.length vc) h rfl ?_
      try simp only [ix, ↓o_nil, ↓o_field, ↓o_add, ↓o_sub, ↓o_mul, ↓o_lss, ↓o_leq, ↓o_gtr, ↓o_geq, ↓o_not, ↓o_pick, ↓o_eqInt, ↓o_neInt, ↓o_eqBool, ↓o_neBool, ↓o_eqPtr, ↓o_nePtr, ↓o_eqPtr', ↓o_eqSl, ↓o_neSl, ↓o_eqStr, ↓o_neStr, ↓o_len, ↓o_lenS, ↓o_min, ↓o_max, ↓o_extract, ↓o_convInt, ↓cd_true, ↓cd_false, ↓gate_tt, ↓gate_ff, ↓gate_tf, ↓gate_ft, ↓gate_undef, ↓o_bind, ↓stay_v, ↓pop_cons, ↓fin_nil, Option.isNone_none, Option.isNone_some, Bool.not_true, Bool.not_false, Nat.zero_add, decide_true, decide_false, if_true, if_false, Bool.false_eq_true, ↓reduceIte]
      refine ld_el h hrd.right.right (i * 5 + 1) (by omega) (ocells x.own) rfl (own_at hx) ?_
      refine ld_agg (b := ob) h rfl ?_
      rw [eq23]
      have no : ∀ w, isMine o now x = false → sat E w (osl 25 5 out ((t.l.take i).filter (isMine o now)).length (svs ((t.l.take i).filter (isMine o now))) * (boxO ob o * tR q t (.slice (some ⟨b', o', none⟩) t.l.length vc) R)) → kj [out] w := by
        intro w hn h
        rw [hn, if_neg (by decide), List.append_nil] at hms
        rw [hms] at hkj
        exact hkj _ _ ⟨out, rfl, h⟩
      by_cases ho : x.own = o
      · simp only [decide_eq_true ho, ↓o_nil, ↓o_field, ↓o_add, ↓o_sub, ↓o_mul, ↓o_lss, ↓o_leq, ↓o_gtr, ↓o_geq, ↓o_not, ↓o_pick, ↓o_eqInt, ↓o_neInt, ↓o_eqBool, ↓o_neBool, ↓o_eqPtr, ↓o_nePtr, ↓o_eqPtr', ↓o_eqSl, ↓o_neSl, ↓o_eqStr, ↓o_neStr, ↓o_len, ↓o_lenS, ↓o_min, ↓o_max, ↓o_extract, ↓o_convInt, ↓cd_true, ↓cd_false, ↓gate_tt, ↓gate_ff, ↓gate_tf, ↓gate_ft, ↓gate_undef, ↓o_bind, ↓stay_v, ↓pop_cons, ↓fin_nil, Option.isNone_none, Option.isNone_some, Bool.not_true, Bool.not_false, Nat.zero_add, decide_true, decide_false, if_true, if_false, Bool.false_eq_true, ↓reduceIte]
        refine ld_in (b := q) (v := .slice (some ⟨b', o', none⟩) t.l.length vc) h rfl ?_
        try simp only [ix, ↓o_nil, ↓o_field, ↓o_add, ↓o_sub, ↓o_mul, ↓o_lss, ↓o_leq, ↓o_gtr, ↓o_geq, ↓o_not, ↓o_pick, ↓o_eqInt, ↓o_neInt, ↓o_eqBool, ↓o_neBool, ↓o_eqPtr, ↓o_nePtr, ↓o_eqPtr', ↓o_eqSl, ↓o_neSl, ↓o_eqStr, ↓o_neStr, ↓o_len, ↓o_lenS, ↓o_min, ↓o_max, ↓o_extract, ↓o_convInt, ↓cd_true, ↓cd_false, ↓gate_tt, ↓gate_ff, ↓gate_tf, ↓gate_ft, ↓gate_undef, ↓o_bind, ↓stay_v, ↓pop_cons, ↓fin_nil, Option.isNone_none, Option.isNone_some, Bool.not_true, Bool.not_false, Nat.zero_add, decide_true, decide_false, if_true, if_false, Bool.false_eq_true, ↓reduceIte]
        refine ld_el h hrd.right.right (i * 5) (by omega) (scells x) rfl (svs_at hx) ?_
        try simp only [ix, ↓o_nil, ↓o_field, ↓o_add, ↓o_sub, ↓o_mul, ↓o_lss, ↓o_leq, ↓o_gtr, ↓o_geq, ↓o_not, ↓o_pick, ↓o_eqInt, ↓o_neInt, ↓o_eqBool, ↓o_neBool, ↓o_eqPtr, ↓o_nePtr, ↓o_eqPtr', ↓o_eqSl, ↓o_neSl, ↓o_eqStr, ↓o_neStr, ↓o_len, ↓o_lenS, ↓o_min, ↓o_max, ↓o_extract, ↓o_convInt, ↓cd_true, ↓cd_false, ↓gate_tt, ↓gate_ff, ↓gate_tf, ↓gate_ft, ↓gate_undef, ↓o_bind, ↓stay_v, ↓pop_cons, ↓fin_nil, Option.isNone_none, Option.isNone_some, Bool.not_true, Bool.not_false, Nat.zero_add, decide_true, decide_false, if_true, if_false, Bool.false_eq_true, ↓reduceIte]
        refine over_spec h (ok.okR (List.mem_of_getElem? hx)) fun w h => ?_
        refine st_in (b := q) (v := .slice (some ⟨b', o', none⟩) t.l.length vc) h rfl ?_
        refine st_agg (b := ob) h rfl ?_
        refine st_el h hrd.right.right (i * 5 + 1) (by omega) (ocells x.own) rfl (own_at hx) ?_
        refine st_in (b := q) (v := .slice (some ⟨b', o', none⟩) t.l.length vc) h rfl ?_
        by_cases hu : untilS x ≤ now
        · simp only [decide_eq_true hu, ↓o_nil, ↓o_field, ↓o_add, ↓o_sub, ↓o_mul, ↓o_lss, ↓o_leq, ↓o_gtr, ↓o_geq, ↓o_not, ↓o_pick, ↓o_eqInt, ↓o_neInt, ↓o_eqBool, ↓o_neBool, ↓o_eqPtr, ↓o_nePtr, ↓o_eqPtr', ↓o_eqSl, ↓o_neSl, ↓o_eqStr, ↓o_neStr, ↓o_len, ↓o_lenS, ↓o_min, ↓o_max, ↓o_extract, ↓o_convInt, ↓cd_true, ↓cd_false, ↓gate_tt, ↓gate_ff, ↓gate_tf, ↓gate_ft, ↓gate_undef, ↓o_bind, ↓stay_v, ↓pop_cons, ↓fin_nil, Option.isNone_none, Option.isNone_some, Bool.not_true, Bool.not_false, Nat.zero_add, decide_true, decide_false, if_true, if_false, Bool.false_eq_true, ↓reduceIte]
          refine no w ?_ h
          unfold isMine
          rw [decide_eq_false (show ¬ now < untilS x by omega), Bool.and_false]
        · simp only [decide_eq_false hu, ↓o_nil, ↓o_field, ↓o_add, ↓o_sub, ↓o_mul, ↓o_lss, ↓o_leq, ↓o_gtr, ↓o_geq, ↓o_not, ↓o_pick, ↓o_eqInt, ↓o_neInt, ↓o_eqBool, ↓o_neBool, ↓o_eqPtr, ↓o_nePtr, ↓o_eqPtr', ↓o_eqSl, ↓o_neSl, ↓o_eqStr, ↓o_neStr, ↓o_len, ↓o_lenS, ↓o_min, ↓o_max, ↓o_extract, ↓o_convInt, ↓cd_true, ↓cd_false, ↓gate_tt, ↓gate_ff, ↓gate_tf, ↓gate_ft, ↓gate_undef, ↓o_bind, ↓stay_v, ↓pop_cons, ↓fin_nil, Option.isNone_none, Option.isNone_some, Bool.not_true, Bool.not_false, Nat.zero_add, decide_true, decide_false, if_true, if_false, Bool.false_eq_true, ↓reduceIte]
          have hy : isMine o now x = true := by unfold isMine; rw [decide_eq_true ho, decide_eq_true (show now < untilS x by omega)]; rfl
          rw [if_pos hy] at hms
          refine ld_in (b := q) (v := .slice (some ⟨b', o', none⟩) t.l.length vc) h rfl ?_
          try simp only [ix, ↓o_nil, ↓o_field, ↓o_add, ↓o_sub, ↓o_mul, ↓o_lss, ↓o_leq, ↓o_gtr, ↓o_geq, ↓o_not, ↓o_pick, ↓o_eqInt, ↓o_neInt, ↓o_eqBool, ↓o_neBool, ↓o_eqPtr, ↓o_nePtr, ↓o_eqPtr', ↓o_eqSl, ↓o_neSl, ↓o_eqStr, ↓o_neStr, ↓o_len, ↓o_lenS, ↓o_min, ↓o_max, ↓o_extract, ↓o_convInt, ↓cd_true, ↓cd_false, ↓gate_tt, ↓gate_ff, ↓gate_tf, ↓gate_ft, ↓gate_undef, ↓o_bind, ↓stay_v, ↓pop_cons, ↓fin_nil, Option.isNone_none, Option.isNone_some, Bool.not_true, Bool.not_false, Nat.zero_add, decide_true, decide_false, if_true, if_false, Bool.false_eq_true, ↓reduceIte]
          refine ld_el h hrd.right.right (i * 5) (by omega) (scells x) rfl (svs_at hx) ?_
          refine buildSlice_sl (e := 25) (cs := (scells x).toArray) h (fun w => by kernel_rfl) fun b5 w h => ?_
          refine append_sl (v := out) h (scells x) (k' := 1) rfl (.inr ⟨b5, 0, _, _, _, rfl, h.pts_get, fun j v hj => by simpa using hj⟩) (scells_one x) (by omega) (by omega) fun v' w h => ?_
          refine hkj _ _ ⟨v', rfl, ?_⟩
          have h := h.lose b5
          rw [hms, svs_append, List.length_append]
          simpa [svs] using h
      · simp only [decide_eq_false ho, ↓o_nil, ↓o_field, ↓o_add, ↓o_sub, ↓o_mul, ↓o_lss, ↓o_leq, ↓o_gtr, ↓o_geq, ↓o_not, ↓o_pick, ↓o_eqInt, ↓o_neInt, ↓o_eqBool, ↓o_neBool, ↓o_eqPtr, ↓o_nePtr, ↓o_eqPtr', ↓o_eqSl, ↓o_neSl, ↓o_eqStr, ↓o_neStr, ↓o_len, ↓o_lenS, ↓o_min, ↓o_max, ↓o_extract, ↓o_convInt, ↓cd_true, ↓cd_false, ↓gate_tt, ↓gate_ff, ↓gate_tf, ↓gate_ft, ↓gate_undef, ↓o_bind, ↓stay_v, ↓pop_cons, ↓fin_nil, Option.isNone_none, Option.isNone_some, Bool.not_true, Bool.not_false, Nat.zero_add, decide_true, decide_false, if_true, if_false, Bool.false_eq_true, ↓reduceIte]
        refine no w ?_ h
        unfold isMine
        rw [decide_eq_false ho, Bool.false_and]
    · clear h
      rintro σ w ⟨out', rfl, h⟩
      rw [pop_cons, fin_nil]
      try rw [o_add]
      rw [i64_of (by omega) (by omega)]
      exact hag (t.l.length - (i + 1)) _ _ (by omega) ⟨i + 1, out', rfl, rfl, by omega, h⟩
  · have hi2 : i = t.l.length := by omega
    subst hi2
    rw [List.take_length] at h
    refine k1 he out w ?_
    have h := h.perm (show _ = boxO ob o * (osl 25 5 out (t.l.filter (isMine o now)).length (svs (t.l.filter (isMine o now))) * tR q t (.slice va t.l.length vc) R) by unfold tR; ac_rfl)
    exact h.drop
theorem RBegin_spec {q m : Nat} {t : Tb} {v : Value} {o : Own2} {now : Int} (ok : OkT t m) (hm : m ≤ 1000000) (ho : shortO o) (h : sat E w (tR q t v R))
    (k : ∀ v' w', sat E w' (tR q (beginT t o now).1 v' R) → K (.tuple #[sv (beginT t o now).2.1, .int .i64 (beginT t o now).2.2]) w') :
    Calls prog 25 #[.pointer (some ⟨q, 0, none⟩), .agg (ocells o).toArray, .int .i64 now] w (Ret K) := by
  have := ok.n1; have := ok.n2; have := ok.few
  obtain ⟨va, vc, rfl, hvc, hv, _⟩ := (rds_tR (t := t)).shape h
  refine c25 ?_
  unfold B25
  refine box_sl h fun ob w h => ?_
  have h : sat E w (boxO ob o * tR q t (.slice va t.l.length vc) R) := h
  refine ses_new h fun r w h => ?_
  simp only [↓o_nil, ↓o_field, ↓o_add, ↓o_sub, ↓o_mul, ↓o_lss, ↓o_leq, ↓o_gtr, ↓o_geq, ↓o_not, ↓o_pick, ↓o_eqInt, ↓o_neInt, ↓o_eqBool, ↓o_neBool, ↓o_eqPtr, ↓o_nePtr, ↓o_eqPtr', ↓o_eqSl, ↓o_neSl, ↓o_eqStr, ↓o_neStr, ↓o_len, ↓o_lenS, ↓o_min, ↓o_max, ↓o_extract, ↓o_convInt, ↓cd_true, ↓cd_false, ↓gate_tt, ↓gate_ff, ↓gate_tf, ↓gate_ft, ↓gate_undef, ↓o_bind, ↓stay_v, ↓pop_cons, ↓fin_nil, Option.isNone_none, Option.isNone_some, Bool.not_true, Bool.not_false, Nat.zero_add, decide_true, decide_false, if_true, if_false, Bool.false_eq_true, ↓reduceIte]
  refine ld_in (b := ob) (v := tv o.tn) h rfl ?_
  refine RIsName_spec h ho.1 fun w h => ?_
  have out : ∀ w, sat E w (pts r (.cells (scells zeroS).toArray 25 (0, 0)) * (boxO ob o * tR q t (.slice va t.l.length vc) R)) → ∀ e : Int, (beginT t o now) = (t, zeroS, e) →
      pvv prog (Instr.build 25 #[]) w fun t_3 w => efu prog (Instr.storeAt 25 (.pointer (some ⟨r, 0, none⟩)) t_3) w fun u_4 w =>
      ∃ r_5, (do loadVar 25 (← asAddr (.pointer (some ⟨r, 0, none⟩)))).run prog w = .ok r_5 w ∧ K (.tuple #[r_5, (.int .i64 e)]) w := by
    intro w h e he
    refine zeroS_build ?_
    refine ses_ret (b := r) (x := zeroS) h fun w h => ?_
    have := k (.slice va t.l.length vc) w (by rw [he]; exact h.drop.drop)
    rw [he] at this
    exact this
  by_cases n1 : isName o.tn = true
  case neg =>
    have n1 : isName o.tn = false := by simpa using n1
    simp only [n1, ↓o_nil, ↓o_field, ↓o_add, ↓o_sub, ↓o_mul, ↓o_lss, ↓o_leq, ↓o_gtr, ↓o_geq, ↓o_not, ↓o_pick, ↓o_eqInt, ↓o_neInt, ↓o_eqBool, ↓o_neBool, ↓o_eqPtr, ↓o_nePtr, ↓o_eqPtr', ↓o_eqSl, ↓o_neSl, ↓o_eqStr, ↓o_neStr, ↓o_len, ↓o_lenS, ↓o_min, ↓o_max, ↓o_extract, ↓o_convInt, ↓cd_true, ↓cd_false, ↓gate_tt, ↓gate_ff, ↓gate_tf, ↓gate_ft, ↓gate_undef, ↓o_bind, ↓stay_v, ↓pop_cons, ↓fin_nil, Option.isNone_none, Option.isNone_some, Bool.not_true, Bool.not_false, Nat.zero_add, decide_true, decide_false, if_true, if_false, Bool.false_eq_true, ↓reduceIte]
    have := out w h 8 (by unfold beginT; rw [if_pos (by simp [n1])])
    try simp only [↓o_nil, ↓o_field, ↓o_add, ↓o_sub, ↓o_mul, ↓o_lss, ↓o_leq, ↓o_gtr, ↓o_geq, ↓o_not, ↓o_pick, ↓o_eqInt, ↓o_neInt, ↓o_eqBool, ↓o_neBool, ↓o_eqPtr, ↓o_nePtr, ↓o_eqPtr', ↓o_eqSl, ↓o_neSl, ↓o_eqStr, ↓o_neStr, ↓o_len, ↓o_lenS, ↓o_min, ↓o_max, ↓o_extract, ↓o_convInt, ↓cd_true, ↓cd_false, ↓gate_tt, ↓gate_ff, ↓gate_tf, ↓gate_ft, ↓gate_undef, ↓o_bind, ↓stay_v, ↓pop_cons, ↓fin_nil, Option.isNone_none, Option.isNone_some, Bool.not_true, Bool.not_false, Nat.zero_add, decide_true, decide_false, if_true, if_false, Bool.false_eq_true, ↓reduceIte] at this
    exact this
  simp only [n1, ↓o_nil, ↓o_field, ↓o_add, ↓o_sub, ↓o_mul, ↓o_lss, ↓o_leq, ↓o_gtr, ↓o_geq, ↓o_not, ↓o_pick, ↓o_eqInt, ↓o_neInt, ↓o_eqBool, ↓o_neBool, ↓o_eqPtr, ↓o_nePtr, ↓o_eqPtr', ↓o_eqSl, ↓o_neSl, ↓o_eqStr, ↓o_neStr, ↓o_len, ↓o_lenS, ↓o_min, ↓o_max, ↓o_extract, ↓o_convInt, ↓cd_true, ↓cd_false, ↓gate_tt, ↓gate_ff, ↓gate_tf, ↓gate_ft, ↓gate_undef, ↓o_bind, ↓stay_v, ↓pop_cons, ↓fin_nil, Option.isNone_none, Option.isNone_some, Bool.not_true, Bool.not_false, Nat.zero_add, decide_true, decide_false, if_true, if_false, Bool.false_eq_true, ↓reduceIte]
  refine ld_in (b := ob) (v := tv o.us) h rfl ?_
  try simp only [↓o_nil, ↓o_field, ↓o_add, ↓o_sub, ↓o_mul, ↓o_lss, ↓o_leq, ↓o_gtr, ↓o_geq, ↓o_not, ↓o_pick, ↓o_eqInt, ↓o_neInt, ↓o_eqBool, ↓o_neBool, ↓o_eqPtr, ↓o_nePtr, ↓o_eqPtr', ↓o_eqSl, ↓o_neSl, ↓o_eqStr, ↓o_neStr, ↓o_len, ↓o_lenS, ↓o_min, ↓o_max, ↓o_extract, ↓o_convInt, ↓cd_true, ↓cd_false, ↓gate_tt, ↓gate_ff, ↓gate_tf, ↓gate_ft, ↓gate_undef, ↓o_bind, ↓stay_v, ↓pop_cons, ↓fin_nil, Option.isNone_none, Option.isNone_some, Bool.not_true, Bool.not_false, Nat.zero_add, decide_true, decide_false, if_true, if_false, Bool.false_eq_true, ↓reduceIte]
  refine RIsName_spec h ho.2 fun w h => ?_
  by_cases n2 : isName o.us = true
  case neg =>
    have n2 : isName o.us = false := by simpa using n2
    simp only [n2, ↓o_nil, ↓o_field, ↓o_add, ↓o_sub, ↓o_mul, ↓o_lss, ↓o_leq, ↓o_gtr, ↓o_geq, ↓o_not, ↓o_pick, ↓o_eqInt, ↓o_neInt, ↓o_eqBool, ↓o_neBool, ↓o_eqPtr, ↓o_nePtr, ↓o_eqPtr', ↓o_eqSl, ↓o_neSl, ↓o_eqStr, ↓o_neStr, ↓o_len, ↓o_lenS, ↓o_min, ↓o_max, ↓o_extract, ↓o_convInt, ↓cd_true, ↓cd_false, ↓gate_tt, ↓gate_ff, ↓gate_tf, ↓gate_ft, ↓gate_undef, ↓o_bind, ↓stay_v, ↓pop_cons, ↓fin_nil, Option.isNone_none, Option.isNone_some, Bool.not_true, Bool.not_false, Nat.zero_add, decide_true, decide_false, if_true, if_false, Bool.false_eq_true, ↓reduceIte]
    have := out w h 8 (by unfold beginT; rw [if_pos (by simp [n1, n2])])
    try simp only [↓o_nil, ↓o_field, ↓o_add, ↓o_sub, ↓o_mul, ↓o_lss, ↓o_leq, ↓o_gtr, ↓o_geq, ↓o_not, ↓o_pick, ↓o_eqInt, ↓o_neInt, ↓o_eqBool, ↓o_neBool, ↓o_eqPtr, ↓o_nePtr, ↓o_eqPtr', ↓o_eqSl, ↓o_neSl, ↓o_eqStr, ↓o_neStr, ↓o_len, ↓o_lenS, ↓o_min, ↓o_max, ↓o_extract, ↓o_convInt, ↓cd_true, ↓cd_false, ↓gate_tt, ↓gate_ff, ↓gate_tf, ↓gate_ft, ↓gate_undef, ↓o_bind, ↓stay_v, ↓pop_cons, ↓fin_nil, Option.isNone_none, Option.isNone_some, Bool.not_true, Bool.not_false, Nat.zero_add, decide_true, decide_false, if_true, if_false, Bool.false_eq_true, ↓reduceIte] at this
    exact this
  simp only [n2, ↓o_nil, ↓o_field, ↓o_add, ↓o_sub, ↓o_mul, ↓o_lss, ↓o_leq, ↓o_gtr, ↓o_geq, ↓o_not, ↓o_pick, ↓o_eqInt, ↓o_neInt, ↓o_eqBool, ↓o_neBool, ↓o_eqPtr, ↓o_nePtr, ↓o_eqPtr', ↓o_eqSl, ↓o_neSl, ↓o_eqStr, ↓o_neStr, ↓o_len, ↓o_lenS, ↓o_min, ↓o_max, ↓o_extract, ↓o_convInt, ↓cd_true, ↓cd_false, ↓gate_tt, ↓gate_ff, ↓gate_tf, ↓gate_ft, ↓gate_undef, ↓o_bind, ↓stay_v, ↓pop_cons, ↓fin_nil, Option.isNone_none, Option.isNone_some, Bool.not_true, Bool.not_false, Nat.zero_add, decide_true, decide_false, if_true, if_false, Bool.false_eq_true, ↓reduceIte]
  have hn : ¬ (isName o.tn && isName o.us) = false := by simp [n1, n2]
  refine Rtime_spec (q := q) h ?_
  rw [o_neInt]
  by_cases he : timeE t now = 0
  case neg =>
    rw [show (!decide (timeE t now = 0)) = true by simp [he], cd_true]
    refine out w h _ ?_
    unfold beginT
    rw [if_neg hn, if_pos he]
  rw [show (!decide (timeE t now = 0)) = false by simp [he], cd_false]
  have hne : ¬ timeE t now ≠ 0 := by simpa using he
  try simp only [↓o_nil, ↓o_field, ↓o_add, ↓o_sub, ↓o_mul, ↓o_lss, ↓o_leq, ↓o_gtr, ↓o_geq, ↓o_not, ↓o_pick, ↓o_eqInt, ↓o_neInt, ↓o_eqBool, ↓o_neBool, ↓o_eqPtr, ↓o_nePtr, ↓o_eqPtr', ↓o_eqSl, ↓o_neSl, ↓o_eqStr, ↓o_neStr, ↓o_len, ↓o_lenS, ↓o_min, ↓o_max, ↓o_extract, ↓o_convInt, ↓cd_true, ↓cd_false, ↓gate_tt, ↓gate_ff, ↓gate_tf, ↓gate_ft, ↓gate_undef, ↓o_bind, ↓stay_v, ↓pop_cons, ↓fin_nil, Option.isNone_none, Option.isNone_some, Bool.not_true, Bool.not_false, Nat.zero_add, decide_true, decide_false, if_true, if_false, Bool.false_eq_true, ↓reduceIte]
  refine ld_in (b := q) (v := .int .i64 t.next) h rfl ?_
  rw [o_gtr]
  by_cases hf : 1099511627776 < t.next
  · rw [decide_eq_true hf, cd_true]
    refine out w h _ ?_
    unfold beginT
    rw [if_neg hn, if_neg hne, if_pos hf]
  rw [decide_eq_false hf, cd_false]
  refine lp_nat (fun s σ w => ∃ i : Nat, σ = [.int .i64 (((t.l.take i).filter (isMine o now)).length : Int), .int .i64 (i : Int)] ∧ s = t.l.length - i ∧ i ≤ t.l.length ∧
      sat E w (pts r (.cells (scells zeroS).toArray 25 (0, 0)) * (boxO ob o * tR q t (.slice va t.l.length vc) R))) t.l.length ⟨0, by simp, by omega, by omega, h⟩ ?_
  clear h
  rintro s σ w again ⟨i, rfl, rfl, hi, h⟩ hag
  have hlf : ((t.l.take i).filter (isMine o now)).length ≤ i := Nat.le_trans (List.length_filter_le _ _) (by simp; omega)
  rw [pop_cons, pop_cons, fin_nil]
  try simp only [↓o_nil, ↓o_field, ↓o_add, ↓o_sub, ↓o_mul, ↓o_lss, ↓o_leq, ↓o_gtr, ↓o_geq, ↓o_not, ↓o_pick, ↓o_eqInt, ↓o_neInt, ↓o_eqBool, ↓o_neBool, ↓o_eqPtr, ↓o_nePtr, ↓o_eqPtr', ↓o_eqSl, ↓o_neSl, ↓o_eqStr, ↓o_neStr, ↓o_len, ↓o_lenS, ↓o_min, ↓o_max, ↓o_extract, ↓o_convInt, ↓cd_true, ↓cd_false, ↓gate_tt, ↓gate_ff, ↓gate_tf, ↓gate_ft, ↓gate_undef, ↓o_bind, ↓stay_v, ↓pop_cons, ↓fin_nil, Option.isNone_none, Option.isNone_some, Bool.not_true, Bool.not_false, Nat.zero_add, decide_true, decide_false, if_true, if_false, Bool.false_eq_true, ↓reduceIte]
  refine ld_in (b := q) (v := .slice va t.l.length vc) h rfl ?_
  rw [o_len, o_lss]
  refine cd_dec (fun hlt => ?_) (fun hge => ?_)
  · have hi1 : i < t.l.length := by omega
    have hx : t.l[i]? = some t.l[i] := List.getElem?_eq_getElem hi1
    have hms := mine_succ (o := o) (now := now) hx
    generalize t.l[i] = x at hx hms
    obtain ⟨b', o', c', e, hc', hrd⟩ := hv.opened h.drop.drop (by rw [svs_length]; omega)
    cases e
    have ix : ∀ {w : World} {K : Value → World → Prop}, pvv prog (Instr.indexAt 37 (.slice (some ⟨b', o', none⟩) t.l.length vc) (.int .i64 (i : Int))) w K = K (.pointer (some ⟨b', o' + i * 5, none⟩)) w := fun {w K} => by
      rw [o_index (by omega) (by omega), Int.toNat_natCast]
    refine jn_cut (fun σ w => σ = [.int .i64 (((t.l.take (i + 1)).filter (isMine o now)).length : Int)] ∧ sat E w (pts r (.cells (scells zeroS).toArray 25 (0, 0)) * (boxO ob o * tR q t (.slice (some ⟨b', o', none⟩) t.l.length vc) R))) (fun kj hkj => ?_) ?_
    · refine dr_sl h fun w h _ => ?_
      try simp only [ix, ↓o_nil, ↓o_field, ↓o_add, ↓o_sub, ↓o_mul, ↓o_lss, ↓o_leq, ↓o_gtr, ↓o_geq, ↓o_not, ↓o_pick, ↓o_eqInt, ↓o_neInt, ↓o_eqBool, ↓o_neBool, ↓o_eqPtr, ↓o_nePtr, ↓o_eqPtr', ↓o_eqSl, ↓o_neSl, ↓o_eqStr, ↓o_neStr, ↓o_len, ↓o_lenS, ↓o_min, ↓o_max, ↓o_extract, ↓o_convInt, ↓cd_true, ↓cd_false, ↓gate_tt, ↓gate_ff, ↓gate_tf, ↓gate_ft, ↓gate_undef, ↓o_bind, ↓stay_v, ↓pop_cons, ↓fin_nil, Option.isNone_none, Option.isNone_some, Bool.not_true, Bool.not_false, Nat.zero_add, decide_true, decide_false, if_true, if_false, Bool.false_eq_true, ↓reduceIte]
      refine ld_in (b := q) (v := .slice (some ⟨b', o', none⟩) t.l.length vc) h rfl ?_
      try simp only [ix, ↓o_nil, ↓o_field, ↓o_add, ↓o_sub, ↓o_mul, ↓o_lss, ↓o_leq, ↓o_gtr, ↓o_geq, ↓o_not, ↓o_pick, ↓o_eqInt, ↓o_neInt, ↓o_eqBool, ↓o_neBool, ↓o_eqPtr, ↓o_nePtr, ↓o_eqPtr', ↓o_eqSl, ↓o_neSl, ↓o_eqStr, ↓o_neStr, ↓o_len, ↓o_lenS, ↓o_min, ↓o_max, ↓o_extract, ↓o_convInt, ↓cd_true, ↓cd_false, ↓gate_tt, ↓gate_ff, ↓gate_tf, ↓gate_ft, ↓gate_undef, ↓o_bind, ↓stay_v, ↓pop_cons, ↓fin_nil, Option.isNone_none, Option.isNone_some, Bool.not_true, Bool.not_false, Nat.zero_add, decide_true, decide_false, if_true, if_false, Bool.false_eq_true, ↓reduceIte]
      refine ld_el h hrd.right.right (i * 5 + 1) (by omega) (ocells x.own) rfl (own_at hx) ?_
      refine ld_agg (b := ob) h rfl ?_
      rw [eq23]
      have no : ∀ w, isMine o now x = false → sat E w (pts r (.cells (scells zeroS).toArray 25 (0, 0)) * (boxO ob o * tR q t (.slice (some ⟨b', o', none⟩) t.l.length vc) R)) → kj [.int .i64 (((t.l.take i).filter (isMine o now)).length : Int)] w := by
        intro w hn h
        rw [hn, if_neg (by decide), List.append_nil] at hms
        rw [hms] at hkj
        exact hkj _ _ ⟨rfl, h⟩
      by_cases ho : x.own = o
      · simp only [decide_eq_true ho, ↓o_nil, ↓o_field, ↓o_add, ↓o_sub, ↓o_mul, ↓o_lss, ↓o_leq, ↓o_gtr, ↓o_geq, ↓o_not, ↓o_pick, ↓o_eqInt, ↓o_neInt, ↓o_eqBool, ↓o_neBool, ↓o_eqPtr, ↓o_nePtr, ↓o_eqPtr', ↓o_eqSl, ↓o_neSl, ↓o_eqStr, ↓o_neStr, ↓o_len, ↓o_lenS, ↓o_min, ↓o_max, ↓o_extract, ↓o_convInt, ↓cd_true, ↓cd_false, ↓gate_tt, ↓gate_ff, ↓gate_tf, ↓gate_ft, ↓gate_undef, ↓o_bind, ↓stay_v, ↓pop_cons, ↓fin_nil, Option.isNone_none, Option.isNone_some, Bool.not_true, Bool.not_false, Nat.zero_add, decide_true, decide_false, if_true, if_false, Bool.false_eq_true, ↓reduceIte]
        refine ld_in (b := q) (v := .slice (some ⟨b', o', none⟩) t.l.length vc) h rfl ?_
        try simp only [ix, ↓o_nil, ↓o_field, ↓o_add, ↓o_sub, ↓o_mul, ↓o_lss, ↓o_leq, ↓o_gtr, ↓o_geq, ↓o_not, ↓o_pick, ↓o_eqInt, ↓o_neInt, ↓o_eqBool, ↓o_neBool, ↓o_eqPtr, ↓o_nePtr, ↓o_eqPtr', ↓o_eqSl, ↓o_neSl, ↓o_eqStr, ↓o_neStr, ↓o_len, ↓o_lenS, ↓o_min, ↓o_max, ↓o_extract, ↓o_convInt, ↓cd_true, ↓cd_false, ↓gate_tt, ↓gate_ff, ↓gate_tf, ↓gate_ft, ↓gate_undef, ↓o_bind, ↓stay_v, ↓pop_cons, ↓fin_nil, Option.isNone_none, Option.isNone_some, Bool.not_true, Bool.not_false, Nat.zero_add, decide_true, decide_false, if_true, if_false, Bool.false_eq_true, ↓reduceIte]
        refine ld_el h hrd.right.right (i * 5) (by omega) (scells x) rfl (svs_at hx) ?_
        try simp only [ix, ↓o_nil, ↓o_field, ↓o_add, ↓o_sub, ↓o_mul, ↓o_lss, ↓o_leq, ↓o_gtr, ↓o_geq, ↓o_not, ↓o_pick, ↓o_eqInt, ↓o_neInt, ↓o_eqBool, ↓o_neBool, ↓o_eqPtr, ↓o_nePtr, ↓o_eqPtr', ↓o_eqSl, ↓o_neSl, ↓o_eqStr, ↓o_neStr, ↓o_len, ↓o_lenS, ↓o_min, ↓o_max, ↓o_extract, ↓o_convInt, ↓cd_true, ↓cd_false, ↓gate_tt, ↓gate_ff, ↓gate_tf, ↓gate_ft, ↓gate_undef, ↓o_bind, ↓stay_v, ↓pop_cons, ↓fin_nil, Option.isNone_none, Option.isNone_some, Bool.not_true, Bool.not_false, Nat.zero_add, decide_true, decide_false, if_true, if_false, Bool.false_eq_true, ↓reduceIte]
        refine over_spec h (ok.okR (List.mem_of_getElem? hx)) fun w h => ?_
        refine st_in (b := q) (v := .slice (some ⟨b', o', none⟩) t.l.length vc) h rfl ?_
        refine st_agg (b := ob) h rfl ?_
        refine st_el h hrd.right.right (i * 5 + 1) (by omega) (ocells x.own) rfl (own_at hx) ?_
        refine st_in (b := q) (v := .slice (some ⟨b', o', none⟩) t.l.length vc) h rfl ?_
        by_cases hu : untilS x ≤ now
        · simp only [decide_eq_true hu, ↓o_nil, ↓o_field, ↓o_add, ↓o_sub, ↓o_mul, ↓o_lss, ↓o_leq, ↓o_gtr, ↓o_geq, ↓o_not, ↓o_pick, ↓o_eqInt, ↓o_neInt, ↓o_eqBool, ↓o_neBool, ↓o_eqPtr, ↓o_nePtr, ↓o_eqPtr', ↓o_eqSl, ↓o_neSl, ↓o_eqStr, ↓o_neStr, ↓o_len, ↓o_lenS, ↓o_min, ↓o_max, ↓o_extract, ↓o_convInt, ↓cd_true, ↓cd_false, ↓gate_tt, ↓gate_ff, ↓gate_tf, ↓gate_ft, ↓gate_undef, ↓o_bind, ↓stay_v, ↓pop_cons, ↓fin_nil, Option.isNone_none, Option.isNone_some, Bool.not_true, Bool.not_false, Nat.zero_add, decide_true, decide_false, if_true, if_false, Bool.false_eq_true, ↓reduceIte]
          refine no w ?_ h
          unfold isMine
          rw [decide_eq_false (show ¬ now < untilS x by omega), Bool.and_false]
        · simp only [decide_eq_false hu, ↓o_nil, ↓o_field, ↓o_add, ↓o_sub, ↓o_mul, ↓o_lss, ↓o_leq, ↓o_gtr, ↓o_geq, ↓o_not, ↓o_pick, ↓o_eqInt, ↓o_neInt, ↓o_eqBool, ↓o_neBool, ↓o_eqPtr, ↓o_nePtr, ↓o_eqPtr', ↓o_eqSl, ↓o_neSl, ↓o_eqStr, ↓o_neStr, ↓o_len, ↓o_lenS, ↓o_min, ↓o_max, ↓o_extract, ↓o_convInt, ↓cd_true, ↓cd_false, ↓gate_tt, ↓gate_ff, ↓gate_tf, ↓gate_ft, ↓gate_undef, ↓o_bind, ↓stay_v, ↓pop_cons, ↓fin_nil, Option.isNone_none, Option.isNone_some, Bool.not_true, Bool.not_false, Nat.zero_add, decide_true, decide_false, if_true, if_false, Bool.false_eq_true, ↓reduceIte]
          have hy : isMine o now x = true := by unfold isMine; rw [decide_eq_true ho, decide_eq_true (show now < untilS x by omega)]; rfl
          rw [if_pos hy] at hms
          rw [i64_of (by omega) (by omega)]
          refine hkj _ _ ⟨?_, h⟩
          rw [hms, List.length_append]
          simp
      · simp only [decide_eq_false ho, ↓o_nil, ↓o_field, ↓o_add, ↓o_sub, ↓o_mul, ↓o_lss, ↓o_leq, ↓o_gtr, ↓o_geq, ↓o_not, ↓o_pick, ↓o_eqInt, ↓o_neInt, ↓o_eqBool, ↓o_neBool, ↓o_eqPtr, ↓o_nePtr, ↓o_eqPtr', ↓o_eqSl, ↓o_neSl, ↓o_eqStr, ↓o_neStr, ↓o_len, ↓o_lenS, ↓o_min, ↓o_max, ↓o_extract, ↓o_convInt, ↓cd_true, ↓cd_false, ↓gate_tt, ↓gate_ff, ↓gate_tf, ↓gate_ft, ↓gate_undef, ↓o_bind, ↓stay_v, ↓pop_cons, ↓fin_nil, Option.isNone_none, Option.isNone_some, Bool.not_true, Bool.not_false, Nat.zero_add, decide_true, decide_false, if_true, if_false, Bool.false_eq_true, ↓reduceIte]
        refine no w ?_ h
        unfold isMine
        rw [decide_eq_false ho, Bool.false_and]
    · clear h
      rintro σ w ⟨rfl, h⟩
      rw [pop_cons, fin_nil]
      try rw [o_add]
      rw [i64_of (by omega) (by omega)]
      exact hag (t.l.length - (i + 1)) _ _ (by omega) ⟨i + 1, rfl, rfl, by omega, h⟩
  · have hi2 : i = t.l.length := by omega
    subst hi2
    rw [List.take_length] at hlf ⊢
    have hL : liveL t o now = t.l.filter (isMine o now) := rfl
    rw [← hL] at hlf ⊢
    try rw [o_geq]
    by_cases h3 : (3 : Int) ≤ (liveL t o now).length
    · rw [decide_eq_true h3, cd_true]
      refine out w h _ ?_
      unfold beginT
      rw [if_neg hn, if_neg hne, if_neg hf, if_pos (by omega)]
    rw [decide_eq_false h3, cd_false]
    have e : beginT t o now = (⟨t.next + 1, now, t.l ++ [⟨t.next, o.tn, o.us, now, now⟩]⟩, ⟨t.next, o.tn, o.us, now, now⟩, 0) := by
      unfold beginT
      rw [if_neg hn, if_neg hne, if_neg hf, if_neg (by omega)]
    rw [e] at k
    generalize hx : (⟨t.next, o.tn, o.us, now, now⟩ : Ses) = x at k
    refine dr_sl h fun w h _ => ?_
    try simp only [↓o_nil, ↓o_field, ↓o_add, ↓o_sub, ↓o_mul, ↓o_lss, ↓o_leq, ↓o_gtr, ↓o_geq, ↓o_not, ↓o_pick, ↓o_eqInt, ↓o_neInt, ↓o_eqBool, ↓o_neBool, ↓o_eqPtr, ↓o_nePtr, ↓o_eqPtr', ↓o_eqSl, ↓o_neSl, ↓o_eqStr, ↓o_neStr, ↓o_len, ↓o_lenS, ↓o_min, ↓o_max, ↓o_extract, ↓o_convInt, ↓cd_true, ↓cd_false, ↓gate_tt, ↓gate_ff, ↓gate_tf, ↓gate_ft, ↓gate_undef, ↓o_bind, ↓stay_v, ↓pop_cons, ↓fin_nil, Option.isNone_none, Option.isNone_some, Bool.not_true, Bool.not_false, Nat.zero_add, decide_true, decide_false, if_true, if_false, Bool.false_eq_true, ↓reduceIte]
    refine ld_in (b := q) (v := .int .i64 t.next) h rfl ?_
    refine ld_agg (b := ob) h rfl ?_
    refine pvv_of (v := sv x) (fun w => by rw [← hx]; kernel_rfl) ?_
    refine alloc_sl h fun sb w h => ?_
    have h : sat E w (pts sb (.cells (scells zeroS).toArray 25 (0, 0)) * (pts r (.cells (scells zeroS).toArray 25 (0, 0)) * (boxO ob o * tR q t (.slice va t.l.length vc) R))) := h
    refine st_agg (b := ob) h rfl ?_
    refine st_in (b := q) (v := .int .i64 t.next) h rfl ?_
    refine store_all (b := sb) h (xs := scells zeroS) (vs := scells x) rfl rfl (scells_one x) fun w h => ?_
    try simp only [↓o_nil, ↓o_field, ↓o_add, ↓o_sub, ↓o_mul, ↓o_lss, ↓o_leq, ↓o_gtr, ↓o_geq, ↓o_not, ↓o_pick, ↓o_eqInt, ↓o_neInt, ↓o_eqBool, ↓o_neBool, ↓o_eqPtr, ↓o_nePtr, ↓o_eqPtr', ↓o_eqSl, ↓o_neSl, ↓o_eqStr, ↓o_neStr, ↓o_len, ↓o_lenS, ↓o_min, ↓o_max, ↓o_extract, ↓o_convInt, ↓cd_true, ↓cd_false, ↓gate_tt, ↓gate_ff, ↓gate_tf, ↓gate_ft, ↓gate_undef, ↓o_bind, ↓stay_v, ↓pop_cons, ↓fin_nil, Option.isNone_none, Option.isNone_some, Bool.not_true, Bool.not_false, Nat.zero_add, decide_true, decide_false, if_true, if_false, Bool.false_eq_true, ↓reduceIte]
    refine ld_in (b := q) (v := .int .i64 t.next) h rfl ?_
    try simp only [↓o_nil, ↓o_field, ↓o_add, ↓o_sub, ↓o_mul, ↓o_lss, ↓o_leq, ↓o_gtr, ↓o_geq, ↓o_not, ↓o_pick, ↓o_eqInt, ↓o_neInt, ↓o_eqBool, ↓o_neBool, ↓o_eqPtr, ↓o_nePtr, ↓o_eqPtr', ↓o_eqSl, ↓o_neSl, ↓o_eqStr, ↓o_neStr, ↓o_len, ↓o_lenS, ↓o_min, ↓o_max, ↓o_extract, ↓o_convInt, ↓cd_true, ↓cd_false, ↓gate_tt, ↓gate_ff, ↓gate_tf, ↓gate_ft, ↓gate_undef, ↓o_bind, ↓stay_v, ↓pop_cons, ↓fin_nil, Option.isNone_none, Option.isNone_some, Bool.not_true, Bool.not_false, Nat.zero_add, decide_true, decide_false, if_true, if_false, Bool.false_eq_true, ↓reduceIte]
    rw [i64_of (by omega) (by omega)]
    refine store_sl (b := q) h rfl (by simp [rtcells]) fun w h => ?_
    try simp only [↓o_nil, ↓o_field, ↓o_add, ↓o_sub, ↓o_mul, ↓o_lss, ↓o_leq, ↓o_gtr, ↓o_geq, ↓o_not, ↓o_pick, ↓o_eqInt, ↓o_neInt, ↓o_eqBool, ↓o_neBool, ↓o_eqPtr, ↓o_nePtr, ↓o_eqPtr', ↓o_eqSl, ↓o_neSl, ↓o_eqStr, ↓o_neStr, ↓o_len, ↓o_lenS, ↓o_min, ↓o_max, ↓o_extract, ↓o_convInt, ↓cd_true, ↓cd_false, ↓gate_tt, ↓gate_ff, ↓gate_tf, ↓gate_ft, ↓gate_undef, ↓o_bind, ↓stay_v, ↓pop_cons, ↓fin_nil, Option.isNone_none, Option.isNone_some, Bool.not_true, Bool.not_false, Nat.zero_add, decide_true, decide_false, if_true, if_false, Bool.false_eq_true, ↓reduceIte]
    refine store_sl (b := q) h rfl (by simp [rtcells]) fun w h => ?_
    try simp only [↓o_nil, ↓o_field, ↓o_add, ↓o_sub, ↓o_mul, ↓o_lss, ↓o_leq, ↓o_gtr, ↓o_geq, ↓o_not, ↓o_pick, ↓o_eqInt, ↓o_neInt, ↓o_eqBool, ↓o_neBool, ↓o_eqPtr, ↓o_nePtr, ↓o_eqPtr', ↓o_eqSl, ↓o_neSl, ↓o_eqStr, ↓o_neStr, ↓o_len, ↓o_lenS, ↓o_min, ↓o_max, ↓o_extract, ↓o_convInt, ↓cd_true, ↓cd_false, ↓gate_tt, ↓gate_ff, ↓gate_tf, ↓gate_ft, ↓gate_undef, ↓o_bind, ↓stay_v, ↓pop_cons, ↓fin_nil, Option.isNone_none, Option.isNone_some, Bool.not_true, Bool.not_false, Nat.zero_add, decide_true, decide_false, if_true, if_false, Bool.false_eq_true, ↓reduceIte]
    have h : sat E w (pts q (.cells (rtcells ⟨t.next + 1, now, t.l⟩ (.slice va t.l.length vc)).toArray 63 (0, 0)) * _) := h
    refine ld_in (b := q) (v := .slice va t.l.length vc) h rfl ?_
    refine append_sl (osl_nil h 25 5) (svs t.l) (svs_length _) (((Rds.under (H1 := pers (immS (.slice va t.l.length vc) t.l.length (svs t.l))) Rds.pers)).win h) (svs_one _) (by omega) (by omega) fun v2 w h => ?_
    refine ld_agg (b := sb) (xs := scells x) h rfl ?_
    refine buildSlice_sl (e := 25) (cs := (scells x).toArray) h (fun w => by kernel_rfl) fun b5 w h => ?_
    refine append_sl (v := v2) h (scells x) (k' := 1) rfl (.inr ⟨b5, 0, _, _, _, rfl, h.pts_get, fun j v hj => by simpa using hj⟩) (scells_one x) (by omega) (by omega) fun v3 w h => ?_
    have e9 : [] ++ svs t.l ++ scells x = svs (t.l ++ [x]) := by simp [svs]
    rw [e9, Nat.zero_add] at h
    have hone : v3.oneCell' = true := by
      obtain ⟨_, _, rfl, _⟩ := osl_shape h
      rfl
    try simp only [↓o_nil, ↓o_field, ↓o_add, ↓o_sub, ↓o_mul, ↓o_lss, ↓o_leq, ↓o_gtr, ↓o_geq, ↓o_not, ↓o_pick, ↓o_eqInt, ↓o_neInt, ↓o_eqBool, ↓o_neBool, ↓o_eqPtr, ↓o_nePtr, ↓o_eqPtr', ↓o_eqSl, ↓o_neSl, ↓o_eqStr, ↓o_neStr, ↓o_len, ↓o_lenS, ↓o_min, ↓o_max, ↓o_extract, ↓o_convInt, ↓cd_true, ↓cd_false, ↓gate_tt, ↓gate_ff, ↓gate_tf, ↓gate_ft, ↓gate_undef, ↓o_bind, ↓stay_v, ↓pop_cons, ↓fin_nil, Option.isNone_none, Option.isNone_some, Bool.not_true, Bool.not_false, Nat.zero_add, decide_true, decide_false, if_true, if_false, Bool.false_eq_true, ↓reduceIte]
    refine store_sl (b := q) h hone (by simp [rtcells]) fun w h => ?_
    refine ld_agg (b := sb) (xs := scells x) h rfl ?_
    refine ses_ret (b := r) (x := zeroS) h fun w h => ?_
    refine k v3 w (tR_mk ?_)
    have h := h.lose b5
    have h := h.perm (show _ = pts r (.cells (scells x).toArray 25 (0, 0)) * (pts sb (.cells (scells x).toArray 25 (0, 0)) * (boxO ob o * (pers (immS (.slice va t.l.length vc) t.l.length (svs t.l)) * (pts q (.cells (rtcells ⟨t.next + 1, now, t.l ++ [x]⟩ v3).toArray 63 (0, 0)) * (osl 25 5 v3 (t.l.length + 1) (svs (t.l ++ [x])) * R))))) by
      simp only [rtcells, List.set_cons_zero, List.set_cons_succ]
      ac_rfl)
    have h := h.drop.drop.drop.drop
    rw [List.length_append, List.length_singleton]
    exact h
end Go.Proofs.YticbbnjhiiimcaaDoor

/-
  A deed on both tables.
-/
set_option linter.all false
set_option maxRecDepth 100000
namespace Go.Proofs.YticbbnjhiiimcaaDoor
open Go Hold
variable {E : World0} {w : World} {H R X : HP} {K : Value → World → Prop}
theorem SameInts_specG (h : sat E w H) {v u : Value} {l l' : List Int} (hv : Rds H v l.length (l.map iv)) (hu : Rds H u l'.length (l'.map iv)) (hl : l.length ≤ 1000000) (k : ∀ r w', (l = l' → r = true) → sat E w' H → K (.bool r) w') : Calls prog 29 #[v, u] w (Ret K) := by
  obtain ⟨a, c, rfl, hc, hv, ha⟩ := hv.shape h
  obtain ⟨a', c', rfl, hc', hu, ha'⟩ := hu.shape h
  refine c29 ?_
  unfold B29
  rw [o_len, o_len, o_neInt]
  by_cases hle : l'.length = l.length
  case neg =>
    rw [show (!decide ((l.length : Int) = l'.length)) = true by simp; omega, cd_true]
    exact k _ _ (fun e => absurd (by rw [e]) hle) h
  rw [show (!decide ((l.length : Int) = l'.length)) = false by simp; omega, cd_false]
  refine lp_nat (fun n σ w => ∃ i : Nat, σ = [.int .i64 i] ∧ n = l.length - i ∧ i ≤ l.length ∧ sat E w H) l.length ⟨0, rfl, rfl, by omega, h⟩ ?_
  clear h
  rintro n σ w again ⟨i, rfl, rfl, hi, h⟩ hag
  rw [pop_cons, fin_nil, o_len, o_lss]
  refine cd_dec (fun hlt => ?_) (fun hge => ?_)
  · have hi1 : i < l.length := by omega
    have hx : l[i]? = some l[i] := List.getElem?_eq_getElem hi1
    generalize l[i] = x at hx
    have hi2 : i < l'.length := by omega
    have hy : l'[i]? = some l'[i] := List.getElem?_eq_getElem hi2
    generalize l'[i] = y at hy
    obtain ⟨b1, o1, _, e1, _, hv⟩ := hv.opened h (by simp; omega)
    cases e1
    obtain ⟨b2, o2, _, e2, _, hu⟩ := hu.opened h (by simp; omega)
    cases e2
    have hx' : (l.map iv)[i]? = some (.int .i64 x) := by rw [List.getElem?_map, hx]; rfl
    have hy' : (l'.map iv)[i]? = some (.int .i64 y) := by rw [List.getElem?_map, hy]; rfl
    refine dr_sl h fun w h _ => ?_
    rw [o_index (by omega) (by omega), o_index (by omega) (by omega)]
    simp only [↓o_nil, ↓o_field, ↓o_add, ↓o_sub, ↓o_mul, ↓o_lss, ↓o_leq, ↓o_gtr, ↓o_geq, ↓o_not, ↓o_pick, ↓o_eqInt, ↓o_neInt, ↓o_eqBool, ↓o_neBool, ↓o_eqPtr, ↓o_nePtr, ↓o_eqPtr', ↓o_eqSl, ↓o_neSl, ↓o_eqStr, ↓o_neStr, ↓o_len, ↓o_lenS, ↓o_min, ↓o_max, ↓o_extract, ↓o_convInt, ↓cd_true, ↓cd_false, ↓gate_tt, ↓gate_ff, ↓gate_tf, ↓gate_ft, ↓gate_undef, ↓o_bind, ↓stay_v, ↓pop_cons, ↓fin_nil, Option.isNone_none, Option.isNone_some, Bool.not_true, Bool.not_false, Nat.zero_add, decide_true, decide_false, if_true, if_false, Bool.false_eq_true, ↓reduceIte]
    refine ld_rd h hv i (by rw [Int.toNat_natCast]; omega) hx' ?_
    try simp only [↓o_nil, ↓o_field, ↓o_add, ↓o_sub, ↓o_mul, ↓o_lss, ↓o_leq, ↓o_gtr, ↓o_geq, ↓o_not, ↓o_pick, ↓o_eqInt, ↓o_neInt, ↓o_eqBool, ↓o_neBool, ↓o_eqPtr, ↓o_nePtr, ↓o_eqPtr', ↓o_eqSl, ↓o_neSl, ↓o_eqStr, ↓o_neStr, ↓o_len, ↓o_lenS, ↓o_min, ↓o_max, ↓o_extract, ↓o_convInt, ↓cd_true, ↓cd_false, ↓gate_tt, ↓gate_ff, ↓gate_tf, ↓gate_ft, ↓gate_undef, ↓o_bind, ↓stay_v, ↓pop_cons, ↓fin_nil, Option.isNone_none, Option.isNone_some, Bool.not_true, Bool.not_false, Nat.zero_add, decide_true, decide_false, if_true, if_false, Bool.false_eq_true, ↓reduceIte]
    refine ld_rd h hu i (by rw [Int.toNat_natCast]; omega) hy' ?_
    rw [o_neInt]
    by_cases hxy : x = y
    · rw [show (!decide (x = y)) = false by simp [hxy], cd_false]
      try rw [o_add]
      rw [i64_of (by omega) (by omega)]
      exact hag (l.length - (i + 1)) _ _ (by omega) ⟨i + 1, rfl, rfl, by omega, h⟩
    · rw [show (!decide (x = y)) = true by simp [hxy], cd_true]
      exact k _ _ (fun e => by rw [e, hy] at hx; exact absurd (Option.some.inj hx).symm hxy) h
  · exact k _ _ (fun _ => rfl) h
theorem flds25 : ∃ f g h i : Field, (prog.fieldsOf 25).toList = [f, g, h, i] ∧ (f.name == "_") = false ∧ (g.name == "_") = false ∧ (h.name == "_") = false ∧ (i.name == "_") = false ∧ f.type = 3 ∧ f.offset = 0 ∧ g.type = 23 ∧ g.offset = 1 ∧ h.type = 3 ∧ h.offset = 3 ∧ i.type = 3 ∧ i.offset = 4 :=
  ⟨(prog.fieldsOf 25).toList.getD 0 default, (prog.fieldsOf 25).toList.getD 1 default, (prog.fieldsOf 25).toList.getD 2 default, (prog.fieldsOf 25).toList.getD 3 default, by kernel_rfl, by kernel_rfl, by kernel_rfl, by kernel_rfl, by kernel_rfl, by kernel_rfl, by kernel_rfl, by kernel_rfl, by kernel_rfl, by kernel_rfl, by kernel_rfl, by kernel_rfl, by kernel_rfl⟩
theorem run_eq25 (x y : Ses) (w : World) : (Op.eqFields 9999 (scells x).toArray (scells y).toArray (prog.fieldsOf 25).toList).run prog w = .ok (decide (x = y)) w := by
  obtain ⟨f, g, h, i, e, h1, h2, h3, h4, t1, o1, t2, o2, t3, o3, t4, o4⟩ := flds25
  rw [e]
  have q23 : (Op.equalIn 9999 23 (.agg (ocells x.own).toArray) (.agg (ocells y.own).toArray)).run prog w = .ok (decide (x.own = y.own)) w := by
    rw [run_equalIn_struct (P := prog) w 9998 23 (ocells x.own).toArray (ocells y.own).toArray (by kernel_rfl) (by kernel_rfl)]
    exact run_eq23 9997 x.own y.own w
  have h9 := run_eqField (P := prog) (w := w) (d := 9999) (xs := (scells x).toArray) (ys := (scells y).toArray) (fs := [g, h, i]) h1 (a := .int .i64 x.id) (b := .int .i64 y.id) (by rw [t1, o1]; exact run_part1 rfl) (by rw [t1, o1]; exact run_part1 rfl) (by rw [t1]; exact run_equalIn_int w 9998 3 .i64 .i64 x.id y.id ul_3.ul)
    (run_eqField h2 (a := .agg (ocells x.own).toArray) (b := .agg (ocells y.own).toArray) (by rw [t2, o2, run_partN (n := 2)]; rfl) (by rw [t2, o2, run_partN (n := 2)]; rfl) (by rw [t2]; exact q23)
      (run_eqField h3 (a := .int .i64 x.since) (b := .int .i64 y.since) (by rw [t3, o3]; exact run_part1 rfl) (by rw [t3, o3]; exact run_part1 rfl) (by rw [t3]; exact run_equalIn_int w 9998 3 .i64 .i64 x.since y.since ul_3.ul)
        (run_eqField h4 (a := .int .i64 x.used) (b := .int .i64 y.used) (by rw [t4, o4]; exact run_part1 rfl) (by rw [t4, o4]; exact run_part1 rfl) (by rw [t4]; exact run_equalIn_int w 9998 3 .i64 .i64 x.used y.used ul_3.ul) run_eqNone)))
  rw [h9]
  congr 1
  rw [Bool.eq_iff_iff]
  obtain ⟨a, b, c, d, e⟩ := x
  obtain ⟨a', b', c', d', e'⟩ := y
  simp [Ses.own, and_assoc]
theorem eq25 {x y : Ses} {xo yo : Operand} : pvv prog (oEq .eql 25 xo yo (sv x) (sv y)) w K = K (.bool (decide (x = y))) w := o_eqStruct (by kernel_rfl) (by kernel_rfl) (by kernel_rfl) (run_eq25 x y)
theorem neq25 {x y : Ses} {xo yo : Operand} : pvv prog (oEq .neq 25 xo yo (sv x) (sv y)) w K = K (.bool !(decide (x = y))) w := o_neStruct (by kernel_rfl) (by kernel_rfl) (by kernel_rfl) (run_eq25 x y)
theorem sameSes_specG (h : sat E w H) {v u : Value} {l l' : List Ses} (hv : Rds H v l.length (svs l)) (hu : Rds H u l'.length (svs l')) (hl : l.length ≤ 1000000) (k : ∀ r w', (l = l' → r = true) → sat E w' H → K (.bool r) w') : Calls prog 35 #[v, u] w (Ret K) := by
  obtain ⟨a, c, rfl, hc, hv, ha⟩ := hv.shape h
  obtain ⟨a', c', rfl, hc', hu, ha'⟩ := hu.shape h
  refine c35 ?_
  unfold B35
  rw [o_len, o_len, o_neInt]
  by_cases hle : l'.length = l.length
  case neg =>
    rw [show (!decide ((l.length : Int) = l'.length)) = true by simp; omega, cd_true]
    exact k _ _ (fun e => absurd (by rw [e]) hle) h
  rw [show (!decide ((l.length : Int) = l'.length)) = false by simp; omega, cd_false]
  refine lp_nat (fun n σ w => ∃ i : Nat, σ = [.int .i64 i] ∧ n = l.length - i ∧ i ≤ l.length ∧ sat E w H) l.length ⟨0, rfl, rfl, by omega, h⟩ ?_
  clear h
  rintro n σ w again ⟨i, rfl, rfl, hi, h⟩ hag
  rw [pop_cons, fin_nil, o_len, o_lss]
  refine cd_dec (fun hlt => ?_) (fun hge => ?_)
  · have hi1 : i < l.length := by omega
    have hx : l[i]? = some l[i] := List.getElem?_eq_getElem hi1
    generalize l[i] = x at hx
    have hi2 : i < l'.length := by omega
    have hy : l'[i]? = some l'[i] := List.getElem?_eq_getElem hi2
    generalize l'[i] = y at hy
    obtain ⟨b1, o1, _, e1, _, hv⟩ := hv.opened h (by rw [svs_length]; omega)
    cases e1
    obtain ⟨b2, o2, _, e2, _, hu⟩ := hu.opened h (by rw [svs_length]; omega)
    cases e2
    refine dr_sl h fun w h _ => ?_
    rw [o_index (by omega) (by omega), o_index (by omega) (by omega)]
    simp only [↓o_nil, ↓o_field, ↓o_add, ↓o_sub, ↓o_mul, ↓o_lss, ↓o_leq, ↓o_gtr, ↓o_geq, ↓o_not, ↓o_pick, ↓o_eqInt, ↓o_neInt, ↓o_eqBool, ↓o_neBool, ↓o_eqPtr, ↓o_nePtr, ↓o_eqPtr', ↓o_eqSl, ↓o_neSl, ↓o_eqStr, ↓o_neStr, ↓o_len, ↓o_lenS, ↓o_min, ↓o_max, ↓o_extract, ↓o_convInt, ↓cd_true, ↓cd_false, ↓gate_tt, ↓gate_ff, ↓gate_tf, ↓gate_ft, ↓gate_undef, ↓o_bind, ↓stay_v, ↓pop_cons, ↓fin_nil, Option.isNone_none, Option.isNone_some, Bool.not_true, Bool.not_false, Nat.zero_add, decide_true, decide_false, if_true, if_false, Bool.false_eq_true, ↓reduceIte]
    refine ld_el h hv (i * 5) (by simp) (scells x) rfl (svs_at hx) ?_
    try simp only [↓o_nil, ↓o_field, ↓o_add, ↓o_sub, ↓o_mul, ↓o_lss, ↓o_leq, ↓o_gtr, ↓o_geq, ↓o_not, ↓o_pick, ↓o_eqInt, ↓o_neInt, ↓o_eqBool, ↓o_neBool, ↓o_eqPtr, ↓o_nePtr, ↓o_eqPtr', ↓o_eqSl, ↓o_neSl, ↓o_eqStr, ↓o_neStr, ↓o_len, ↓o_lenS, ↓o_min, ↓o_max, ↓o_extract, ↓o_convInt, ↓cd_true, ↓cd_false, ↓gate_tt, ↓gate_ff, ↓gate_tf, ↓gate_ft, ↓gate_undef, ↓o_bind, ↓stay_v, ↓pop_cons, ↓fin_nil, Option.isNone_none, Option.isNone_some, Bool.not_true, Bool.not_false, Nat.zero_add, decide_true, decide_false, if_true, if_false, Bool.false_eq_true, ↓reduceIte]
    refine ld_el h hu (i * 5) (by simp) (scells y) rfl (svs_at hy) ?_
    have e9 : ∀ (xo yo : Operand) (K : Value → World → Prop), pvv prog (oEq .neq 25 xo yo (.agg (scells x).toArray) (.agg (scells y).toArray)) w K = K (.bool !(decide (x = y))) w := fun xo yo K => neq25
    rw [e9]
    by_cases hxy : x = y
    · rw [show (!decide (x = y)) = false by simp [hxy], cd_false]
      try rw [o_add]
      rw [i64_of (by omega) (by omega)]
      exact hag (l.length - (i + 1)) _ _ (by omega) ⟨i + 1, rfl, rfl, by omega, h⟩
    · rw [show (!decide (x = y)) = true by simp [hxy], cd_true]
      exact k _ _ (fun e => by rw [e, hy] at hx; exact absurd (Option.some.inj hx).symm hxy) h
  · exact k _ _ (fun _ => rfl) h
theorem two_cmp {a b : Ses} {e e' : Int} {xo yo p q : Operand} (k : ∀ r, (a = b ∧ e = e' → r = true) → K (.bool r) w) :
    pvv prog (oEq .eql 25 xo yo (.agg (scells a).toArray) (.agg (scells b).toArray)) w fun t_24 w =>
    gate (some (t_24, true)) (fun K => K (.int .i64 e) w) w fun t_25 w =>
    gate (some (t_24, true)) (fun K => K (.int .i64 e') w) w fun t_26 w =>
    gate (some (t_24, true)) (fun K => pvv prog (oEq .eql 34 p q t_25 t_26) w K) w fun t_27 w =>
    pv prog (oPick t_24 t_27 (.bool false)) w fun t_28 w => K t_28 w := by
  have e9 : ∀ (K : Value → World → Prop), pvv prog (oEq .eql 25 xo yo (.agg (scells a).toArray) (.agg (scells b).toArray)) w K = K (.bool (decide (a = b))) w := fun K => eq25
  rw [e9]
  by_cases h1 : a = b
  · rw [decide_eq_true h1]
    by_cases h2 : e = e'
    · simp only [decide_eq_true h2, ↓o_nil, ↓o_field, ↓o_add, ↓o_sub, ↓o_mul, ↓o_lss, ↓o_leq, ↓o_gtr, ↓o_geq, ↓o_not, ↓o_pick, ↓o_eqInt, ↓o_neInt, ↓o_eqBool, ↓o_neBool, ↓o_eqPtr, ↓o_nePtr, ↓o_eqPtr', ↓o_eqSl, ↓o_neSl, ↓o_eqStr, ↓o_neStr, ↓o_len, ↓o_lenS, ↓o_min, ↓o_max, ↓o_extract, ↓o_convInt, ↓cd_true, ↓cd_false, ↓gate_tt, ↓gate_ff, ↓gate_tf, ↓gate_ft, ↓gate_undef, ↓o_bind, ↓stay_v, ↓pop_cons, ↓fin_nil, Option.isNone_none, Option.isNone_some, Bool.not_true, Bool.not_false, Nat.zero_add, decide_true, decide_false, if_true, if_false, Bool.false_eq_true, ↓reduceIte]
      exact k _ fun _ => rfl
    · simp only [decide_eq_false h2, ↓o_nil, ↓o_field, ↓o_add, ↓o_sub, ↓o_mul, ↓o_lss, ↓o_leq, ↓o_gtr, ↓o_geq, ↓o_not, ↓o_pick, ↓o_eqInt, ↓o_neInt, ↓o_eqBool, ↓o_neBool, ↓o_eqPtr, ↓o_nePtr, ↓o_eqPtr', ↓o_eqSl, ↓o_neSl, ↓o_eqStr, ↓o_neStr, ↓o_len, ↓o_lenS, ↓o_min, ↓o_max, ↓o_extract, ↓o_convInt, ↓cd_true, ↓cd_false, ↓gate_tt, ↓gate_ff, ↓gate_tf, ↓gate_ft, ↓gate_undef, ↓o_bind, ↓stay_v, ↓pop_cons, ↓fin_nil, Option.isNone_none, Option.isNone_some, Bool.not_true, Bool.not_false, Nat.zero_add, decide_true, decide_false, if_true, if_false, Bool.false_eq_true, ↓reduceIte]
      exact k _ fun h => absurd h.2 h2
  · simp only [decide_eq_false h1, ↓o_nil, ↓o_field, ↓o_add, ↓o_sub, ↓o_mul, ↓o_lss, ↓o_leq, ↓o_gtr, ↓o_geq, ↓o_not, ↓o_pick, ↓o_eqInt, ↓o_neInt, ↓o_eqBool, ↓o_neBool, ↓o_eqPtr, ↓o_nePtr, ↓o_eqPtr', ↓o_eqSl, ↓o_neSl, ↓o_eqStr, ↓o_neStr, ↓o_len, ↓o_lenS, ↓o_min, ↓o_max, ↓o_extract, ↓o_convInt, ↓cd_true, ↓cd_false, ↓gate_tt, ↓gate_ff, ↓gate_tf, ↓gate_ft, ↓gate_undef, ↓o_bind, ↓stay_v, ↓pop_cons, ↓fin_nil, Option.isNone_none, Option.isNone_some, Bool.not_true, Bool.not_false, Nat.zero_add, decide_true, decide_false, if_true, if_false, Bool.false_eq_true, ↓reduceIte]
    exact k _ fun h => absurd h.1 h1
theorem one_cmp {r : Bool} {e e' : Int} {p q : Operand} (k : ∀ r', (r = true ∧ e = e' → r' = true) → K (.bool r') w) :
    gate (some (.bool r, true)) (fun K => K (.int .i64 e) w) w fun t_25 w =>
    gate (some (.bool r, true)) (fun K => K (.int .i64 e') w) w fun t_26 w =>
    gate (some (.bool r, true)) (fun K => pvv prog (oEq .eql 34 p q t_25 t_26) w K) w fun t_27 w =>
    pv prog (oPick (.bool r) t_27 (.bool false)) w fun t_28 w => K t_28 w := by
  cases r
  · simp only [↓o_nil, ↓o_field, ↓o_add, ↓o_sub, ↓o_mul, ↓o_lss, ↓o_leq, ↓o_gtr, ↓o_geq, ↓o_not, ↓o_pick, ↓o_eqInt, ↓o_neInt, ↓o_eqBool, ↓o_neBool, ↓o_eqPtr, ↓o_nePtr, ↓o_eqPtr', ↓o_eqSl, ↓o_neSl, ↓o_eqStr, ↓o_neStr, ↓o_len, ↓o_lenS, ↓o_min, ↓o_max, ↓o_extract, ↓o_convInt, ↓cd_true, ↓cd_false, ↓gate_tt, ↓gate_ff, ↓gate_tf, ↓gate_ft, ↓gate_undef, ↓o_bind, ↓stay_v, ↓pop_cons, ↓fin_nil, Option.isNone_none, Option.isNone_some, Bool.not_true, Bool.not_false, Nat.zero_add, decide_true, decide_false, if_true, if_false, Bool.false_eq_true, ↓reduceIte]
    exact k _ fun h => absurd h.1 (by decide)
  · by_cases h2 : e = e'
    · simp only [decide_eq_true h2, ↓o_nil, ↓o_field, ↓o_add, ↓o_sub, ↓o_mul, ↓o_lss, ↓o_leq, ↓o_gtr, ↓o_geq, ↓o_not, ↓o_pick, ↓o_eqInt, ↓o_neInt, ↓o_eqBool, ↓o_neBool, ↓o_eqPtr, ↓o_nePtr, ↓o_eqPtr', ↓o_eqSl, ↓o_neSl, ↓o_eqStr, ↓o_neStr, ↓o_len, ↓o_lenS, ↓o_min, ↓o_max, ↓o_extract, ↓o_convInt, ↓cd_true, ↓cd_false, ↓gate_tt, ↓gate_ff, ↓gate_tf, ↓gate_ft, ↓gate_undef, ↓o_bind, ↓stay_v, ↓pop_cons, ↓fin_nil, Option.isNone_none, Option.isNone_some, Bool.not_true, Bool.not_false, Nat.zero_add, decide_true, decide_false, if_true, if_false, Bool.false_eq_true, ↓reduceIte]
      exact k _ fun _ => rfl
    · simp only [decide_eq_false h2, ↓o_nil, ↓o_field, ↓o_add, ↓o_sub, ↓o_mul, ↓o_lss, ↓o_leq, ↓o_gtr, ↓o_geq, ↓o_not, ↓o_pick, ↓o_eqInt, ↓o_neInt, ↓o_eqBool, ↓o_neBool, ↓o_eqPtr, ↓o_nePtr, ↓o_eqPtr', ↓o_eqSl, ↓o_neSl, ↓o_eqStr, ↓o_neStr, ↓o_len, ↓o_lenS, ↓o_min, ↓o_max, ↓o_extract, ↓o_convInt, ↓cd_true, ↓cd_false, ↓gate_tt, ↓gate_ff, ↓gate_tf, ↓gate_ft, ↓gate_undef, ↓o_bind, ↓stay_v, ↓pop_cons, ↓fin_nil, Option.isNone_none, Option.isNone_some, Bool.not_true, Bool.not_false, Nat.zero_add, decide_true, decide_false, if_true, if_false, Bool.false_eq_true, ↓reduceIte]
      exact k _ fun h => absurd h.2 h2
def doT (t : Tb) (x : Dd) : Tb :=
  if x.kind = 0 then (beginT t x.o x.now).1 else if x.kind = 1 then (touchT t x.id x.now).1 else if x.kind = 2 then t else if x.kind = 3 then (endT t x.id).1
  else if x.kind = 4 then (endAllT t x.o).1 else if x.kind = 5 then (if timeE t x.now = 0 then (sweepT t x.now).1 else t) else t
theorem ok_do {t : Tb} {m : Nat} {x : Dd} (ok : OkT t m) : OkT (doT t x) (m + 1) := by
  unfold doT
  repeat' split
  · exact ok_begin ok
  · exact ok_up (ok_touch ok)
  · exact ok_up ok
  · exact ok_up (ok_end ok)
  · exact ok_up (ok_endAll ok)
  · rename_i h
    exact ok_up (ok_sweep ok h)
  · exact ok_up ok
  · exact ok_up ok
abbrev both (p : Nat) (b q : Nat) (t s : Tb) (v : Value) (R : HP) : HP := tI p t b (tR q s v R)
theorem both_R {p b q : Nat} {t t' : Tb} {v : Value} (h : sat E w (X * tI p t' b (tR q t v R))) : sat E w (tR q t v (X * tI p t' b R)) := by
  unfold tI tR at h ⊢
  exact h.perm (by ac_rfl)
theorem both_I {p b q : Nat} {t t' : Tb} {v : Value} (h : sat E w (tR q t v (X * tI p t' b R))) : sat E w (X * tI p t' b (tR q t v R)) := by
  unfold tI tR at h ⊢
  exact h.perm (by ac_rfl)
theorem o_at (x : Dd) : ((ddcells x).drop 1).take 2 = ocells x.o := rfl
theorem do_specG {p b q m : Nat} {t s : Tb} {v : Value} {x : Dd} (ok : OkT t m) (oks : OkT s m) (hm : m ≤ 900000) (ho : shortO x.o) (h : sat E w (both p b q t s v R))
    (k : ∀ r v' w', (t = s → r = true) → sat E w' (both p b q (doT t x) (doT s x) v' R) → K (.bool r) w') : Calls prog 17 #[.pointer (some ⟨p, 0, none⟩), .pointer (some ⟨q, 0, none⟩), .agg (ddcells x).toArray] w (Ret K) := by
  have := ok.few
  have := oks.few
  refine c17 ?_
  unfold B17
  refine box_sl h fun xb w h => ?_
  have h : sat E w (pts xb (.cells (ddcells x).toArray 49 (0, 0)) * both p b q t s v R) := h
  simp only [↓o_nil, ↓o_field, ↓o_add, ↓o_sub, ↓o_mul, ↓o_lss, ↓o_leq, ↓o_gtr, ↓o_geq, ↓o_not, ↓o_pick, ↓o_eqInt, ↓o_neInt, ↓o_eqBool, ↓o_neBool, ↓o_eqPtr, ↓o_nePtr, ↓o_eqPtr', ↓o_eqSl, ↓o_neSl, ↓o_eqStr, ↓o_neStr, ↓o_len, ↓o_lenS, ↓o_min, ↓o_max, ↓o_extract, ↓o_convInt, ↓cd_true, ↓cd_false, ↓gate_tt, ↓gate_ff, ↓gate_tf, ↓gate_ft, ↓gate_undef, ↓o_bind, ↓stay_v, ↓pop_cons, ↓fin_nil, Option.isNone_none, Option.isNone_some, Bool.not_true, Bool.not_false, Nat.zero_add, decide_true, decide_false, if_true, if_false, Bool.false_eq_true, ↓reduceIte]
  refine ld_in (b := xb) (v := .int .i64 x.kind) h rfl ?_
  rw [o_eqInt]
  by_cases k0 : x.kind = 0
  · have e : ∀ t, doT t x = (beginT t x.o x.now).1 := fun t => by unfold doT; rw [if_pos k0]
    rw [e, e] at k
    simp only [decide_eq_true k0, ↓o_nil, ↓o_field, ↓o_add, ↓o_sub, ↓o_mul, ↓o_lss, ↓o_leq, ↓o_gtr, ↓o_geq, ↓o_not, ↓o_pick, ↓o_eqInt, ↓o_neInt, ↓o_eqBool, ↓o_neBool, ↓o_eqPtr, ↓o_nePtr, ↓o_eqPtr', ↓o_eqSl, ↓o_neSl, ↓o_eqStr, ↓o_neStr, ↓o_len, ↓o_lenS, ↓o_min, ↓o_max, ↓o_extract, ↓o_convInt, ↓cd_true, ↓cd_false, ↓gate_tt, ↓gate_ff, ↓gate_tf, ↓gate_ft, ↓gate_undef, ↓o_bind, ↓stay_v, ↓pop_cons, ↓fin_nil, Option.isNone_none, Option.isNone_some, Bool.not_true, Bool.not_false, Nat.zero_add, decide_true, decide_false, if_true, if_false, Bool.false_eq_true, ↓reduceIte]
    refine ld_part (b := xb) h (ocells x.o) rfl (o_at x) ?_
    try simp only [↓o_nil, ↓o_field, ↓o_add, ↓o_sub, ↓o_mul, ↓o_lss, ↓o_leq, ↓o_gtr, ↓o_geq, ↓o_not, ↓o_pick, ↓o_eqInt, ↓o_neInt, ↓o_eqBool, ↓o_neBool, ↓o_eqPtr, ↓o_nePtr, ↓o_eqPtr', ↓o_eqSl, ↓o_neSl, ↓o_eqStr, ↓o_neStr, ↓o_len, ↓o_lenS, ↓o_min, ↓o_max, ↓o_extract, ↓o_convInt, ↓cd_true, ↓cd_false, ↓gate_tt, ↓gate_ff, ↓gate_tf, ↓gate_ft, ↓gate_undef, ↓o_bind, ↓stay_v, ↓pop_cons, ↓fin_nil, Option.isNone_none, Option.isNone_some, Bool.not_true, Bool.not_false, Nat.zero_add, decide_true, decide_false, if_true, if_false, Bool.false_eq_true, ↓reduceIte]
    refine ld_in (b := xb) (v := .int .i64 x.now) h rfl ?_
    refine Begin_spec ok (by omega) ho (tI_in h) fun w h => ?_
    rw [o_extract, o_extract]
    refine ses_in (tI_out h) fun ab w h => ?_
    try simp only [↓o_nil, ↓o_field, ↓o_add, ↓o_sub, ↓o_mul, ↓o_lss, ↓o_leq, ↓o_gtr, ↓o_geq, ↓o_not, ↓o_pick, ↓o_eqInt, ↓o_neInt, ↓o_eqBool, ↓o_neBool, ↓o_eqPtr, ↓o_nePtr, ↓o_eqPtr', ↓o_eqSl, ↓o_neSl, ↓o_eqStr, ↓o_neStr, ↓o_len, ↓o_lenS, ↓o_min, ↓o_max, ↓o_extract, ↓o_convInt, ↓cd_true, ↓cd_false, ↓gate_tt, ↓gate_ff, ↓gate_tf, ↓gate_ft, ↓gate_undef, ↓o_bind, ↓stay_v, ↓pop_cons, ↓fin_nil, Option.isNone_none, Option.isNone_some, Bool.not_true, Bool.not_false, Nat.zero_add, decide_true, decide_false, if_true, if_false, Bool.false_eq_true, ↓reduceIte]
    refine ld_part (b := xb) h (ocells x.o) rfl (o_at x) ?_
    try simp only [↓o_nil, ↓o_field, ↓o_add, ↓o_sub, ↓o_mul, ↓o_lss, ↓o_leq, ↓o_gtr, ↓o_geq, ↓o_not, ↓o_pick, ↓o_eqInt, ↓o_neInt, ↓o_eqBool, ↓o_neBool, ↓o_eqPtr, ↓o_nePtr, ↓o_eqPtr', ↓o_eqSl, ↓o_neSl, ↓o_eqStr, ↓o_neStr, ↓o_len, ↓o_lenS, ↓o_min, ↓o_max, ↓o_extract, ↓o_convInt, ↓cd_true, ↓cd_false, ↓gate_tt, ↓gate_ff, ↓gate_tf, ↓gate_ft, ↓gate_undef, ↓o_bind, ↓stay_v, ↓pop_cons, ↓fin_nil, Option.isNone_none, Option.isNone_some, Bool.not_true, Bool.not_false, Nat.zero_add, decide_true, decide_false, if_true, if_false, Bool.false_eq_true, ↓reduceIte]
    refine ld_in (b := xb) (v := .int .i64 x.now) h rfl ?_
    rw [← star_assoc] at h
    refine RBegin_spec oks (by omega) ho (both_R h) fun v' w h => ?_
    rw [o_extract, o_extract]
    refine ses_in (both_I h) fun bb w h => ?_
    refine ld_agg (b := ab) (xs := scells (beginT t x.o x.now).2.1) h rfl ?_
    refine ld_agg (b := bb) (xs := scells (beginT s x.o x.now).2.1) h rfl ?_
    refine two_cmp fun r hr => ?_
    refine k r v' w (fun e => hr (by rw [e]; exact ⟨rfl, rfl⟩)) ?_
    rw [star_assoc] at h
    exact h.drop.drop.drop
  simp only [decide_eq_false k0, ↓o_nil, ↓o_field, ↓o_add, ↓o_sub, ↓o_mul, ↓o_lss, ↓o_leq, ↓o_gtr, ↓o_geq, ↓o_not, ↓o_pick, ↓o_eqInt, ↓o_neInt, ↓o_eqBool, ↓o_neBool, ↓o_eqPtr, ↓o_nePtr, ↓o_eqPtr', ↓o_eqSl, ↓o_neSl, ↓o_eqStr, ↓o_neStr, ↓o_len, ↓o_lenS, ↓o_min, ↓o_max, ↓o_extract, ↓o_convInt, ↓cd_true, ↓cd_false, ↓gate_tt, ↓gate_ff, ↓gate_tf, ↓gate_ft, ↓gate_undef, ↓o_bind, ↓stay_v, ↓pop_cons, ↓fin_nil, Option.isNone_none, Option.isNone_some, Bool.not_true, Bool.not_false, Nat.zero_add, decide_true, decide_false, if_true, if_false, Bool.false_eq_true, ↓reduceIte]
  by_cases k1 : x.kind = 1
  · have e : ∀ t, doT t x = (touchT t x.id x.now).1 := fun t => by unfold doT; rw [if_neg k0, if_pos k1]
    rw [e, e] at k
    simp only [decide_eq_true k1, ↓o_nil, ↓o_field, ↓o_add, ↓o_sub, ↓o_mul, ↓o_lss, ↓o_leq, ↓o_gtr, ↓o_geq, ↓o_not, ↓o_pick, ↓o_eqInt, ↓o_neInt, ↓o_eqBool, ↓o_neBool, ↓o_eqPtr, ↓o_nePtr, ↓o_eqPtr', ↓o_eqSl, ↓o_neSl, ↓o_eqStr, ↓o_neStr, ↓o_len, ↓o_lenS, ↓o_min, ↓o_max, ↓o_extract, ↓o_convInt, ↓cd_true, ↓cd_false, ↓gate_tt, ↓gate_ff, ↓gate_tf, ↓gate_ft, ↓gate_undef, ↓o_bind, ↓stay_v, ↓pop_cons, ↓fin_nil, Option.isNone_none, Option.isNone_some, Bool.not_true, Bool.not_false, Nat.zero_add, decide_true, decide_false, if_true, if_false, Bool.false_eq_true, ↓reduceIte]
    refine ld_in (b := xb) (v := .int .i64 x.id) h rfl ?_
    try simp only [↓o_nil, ↓o_field, ↓o_add, ↓o_sub, ↓o_mul, ↓o_lss, ↓o_leq, ↓o_gtr, ↓o_geq, ↓o_not, ↓o_pick, ↓o_eqInt, ↓o_neInt, ↓o_eqBool, ↓o_neBool, ↓o_eqPtr, ↓o_nePtr, ↓o_eqPtr', ↓o_eqSl, ↓o_neSl, ↓o_eqStr, ↓o_neStr, ↓o_len, ↓o_lenS, ↓o_min, ↓o_max, ↓o_extract, ↓o_convInt, ↓cd_true, ↓cd_false, ↓gate_tt, ↓gate_ff, ↓gate_tf, ↓gate_ft, ↓gate_undef, ↓o_bind, ↓stay_v, ↓pop_cons, ↓fin_nil, Option.isNone_none, Option.isNone_some, Bool.not_true, Bool.not_false, Nat.zero_add, decide_true, decide_false, if_true, if_false, Bool.false_eq_true, ↓reduceIte]
    refine ld_in (b := xb) (v := .int .i64 x.now) h rfl ?_
    refine Touch_spec ok (tI_in h) fun w h => ?_
    rw [o_extract, o_extract]
    refine ses_in (tI_out h) fun ab w h => ?_
    try simp only [↓o_nil, ↓o_field, ↓o_add, ↓o_sub, ↓o_mul, ↓o_lss, ↓o_leq, ↓o_gtr, ↓o_geq, ↓o_not, ↓o_pick, ↓o_eqInt, ↓o_neInt, ↓o_eqBool, ↓o_neBool, ↓o_eqPtr, ↓o_nePtr, ↓o_eqPtr', ↓o_eqSl, ↓o_neSl, ↓o_eqStr, ↓o_neStr, ↓o_len, ↓o_lenS, ↓o_min, ↓o_max, ↓o_extract, ↓o_convInt, ↓cd_true, ↓cd_false, ↓gate_tt, ↓gate_ff, ↓gate_tf, ↓gate_ft, ↓gate_undef, ↓o_bind, ↓stay_v, ↓pop_cons, ↓fin_nil, Option.isNone_none, Option.isNone_some, Bool.not_true, Bool.not_false, Nat.zero_add, decide_true, decide_false, if_true, if_false, Bool.false_eq_true, ↓reduceIte]
    refine ld_in (b := xb) (v := .int .i64 x.id) h rfl ?_
    try simp only [↓o_nil, ↓o_field, ↓o_add, ↓o_sub, ↓o_mul, ↓o_lss, ↓o_leq, ↓o_gtr, ↓o_geq, ↓o_not, ↓o_pick, ↓o_eqInt, ↓o_neInt, ↓o_eqBool, ↓o_neBool, ↓o_eqPtr, ↓o_nePtr, ↓o_eqPtr', ↓o_eqSl, ↓o_neSl, ↓o_eqStr, ↓o_neStr, ↓o_len, ↓o_lenS, ↓o_min, ↓o_max, ↓o_extract, ↓o_convInt, ↓cd_true, ↓cd_false, ↓gate_tt, ↓gate_ff, ↓gate_tf, ↓gate_ft, ↓gate_undef, ↓o_bind, ↓stay_v, ↓pop_cons, ↓fin_nil, Option.isNone_none, Option.isNone_some, Bool.not_true, Bool.not_false, Nat.zero_add, decide_true, decide_false, if_true, if_false, Bool.false_eq_true, ↓reduceIte]
    refine ld_in (b := xb) (v := .int .i64 x.now) h rfl ?_
    rw [← star_assoc] at h
    refine RTouch_spec oks (by omega) (both_R h) fun v' w h => ?_
    rw [o_extract, o_extract]
    refine ses_in (both_I h) fun bb w h => ?_
    refine ld_agg (b := ab) (xs := scells (touchT t x.id x.now).2.1) h rfl ?_
    refine ld_agg (b := bb) (xs := scells (touchT s x.id x.now).2.1) h rfl ?_
    refine two_cmp fun r hr => ?_
    refine k r v' w (fun e => hr (by rw [e]; exact ⟨rfl, rfl⟩)) ?_
    rw [star_assoc] at h
    exact h.drop.drop.drop
  simp only [decide_eq_false k1, ↓o_nil, ↓o_field, ↓o_add, ↓o_sub, ↓o_mul, ↓o_lss, ↓o_leq, ↓o_gtr, ↓o_geq, ↓o_not, ↓o_pick, ↓o_eqInt, ↓o_neInt, ↓o_eqBool, ↓o_neBool, ↓o_eqPtr, ↓o_nePtr, ↓o_eqPtr', ↓o_eqSl, ↓o_neSl, ↓o_eqStr, ↓o_neStr, ↓o_len, ↓o_lenS, ↓o_min, ↓o_max, ↓o_extract, ↓o_convInt, ↓cd_true, ↓cd_false, ↓gate_tt, ↓gate_ff, ↓gate_tf, ↓gate_ft, ↓gate_undef, ↓o_bind, ↓stay_v, ↓pop_cons, ↓fin_nil, Option.isNone_none, Option.isNone_some, Bool.not_true, Bool.not_false, Nat.zero_add, decide_true, decide_false, if_true, if_false, Bool.false_eq_true, ↓reduceIte]
  by_cases k2 : x.kind = 2
  · have e : ∀ t, doT t x = t := fun t => by unfold doT; rw [if_neg k0, if_neg k1, if_pos k2]
    rw [e, e] at k
    simp only [decide_eq_true k2, ↓o_nil, ↓o_field, ↓o_add, ↓o_sub, ↓o_mul, ↓o_lss, ↓o_leq, ↓o_gtr, ↓o_geq, ↓o_not, ↓o_pick, ↓o_eqInt, ↓o_neInt, ↓o_eqBool, ↓o_neBool, ↓o_eqPtr, ↓o_nePtr, ↓o_eqPtr', ↓o_eqSl, ↓o_neSl, ↓o_eqStr, ↓o_neStr, ↓o_len, ↓o_lenS, ↓o_min, ↓o_max, ↓o_extract, ↓o_convInt, ↓cd_true, ↓cd_false, ↓gate_tt, ↓gate_ff, ↓gate_tf, ↓gate_ft, ↓gate_undef, ↓o_bind, ↓stay_v, ↓pop_cons, ↓fin_nil, Option.isNone_none, Option.isNone_some, Bool.not_true, Bool.not_false, Nat.zero_add, decide_true, decide_false, if_true, if_false, Bool.false_eq_true, ↓reduceIte]
    refine ld_in (b := xb) (v := .int .i64 x.id) h rfl ?_
    try simp only [↓o_nil, ↓o_field, ↓o_add, ↓o_sub, ↓o_mul, ↓o_lss, ↓o_leq, ↓o_gtr, ↓o_geq, ↓o_not, ↓o_pick, ↓o_eqInt, ↓o_neInt, ↓o_eqBool, ↓o_neBool, ↓o_eqPtr, ↓o_nePtr, ↓o_eqPtr', ↓o_eqSl, ↓o_neSl, ↓o_eqStr, ↓o_neStr, ↓o_len, ↓o_lenS, ↓o_min, ↓o_max, ↓o_extract, ↓o_convInt, ↓cd_true, ↓cd_false, ↓gate_tt, ↓gate_ff, ↓gate_tf, ↓gate_ft, ↓gate_undef, ↓o_bind, ↓stay_v, ↓pop_cons, ↓fin_nil, Option.isNone_none, Option.isNone_some, Bool.not_true, Bool.not_false, Nat.zero_add, decide_true, decide_false, if_true, if_false, Bool.false_eq_true, ↓reduceIte]
    refine ld_in (b := xb) (v := .int .i64 x.now) h rfl ?_
    refine Get_spec ok (tI_in h) fun w h => ?_
    rw [o_extract, o_extract]
    refine ses_in (tI_out h) fun ab w h => ?_
    try simp only [↓o_nil, ↓o_field, ↓o_add, ↓o_sub, ↓o_mul, ↓o_lss, ↓o_leq, ↓o_gtr, ↓o_geq, ↓o_not, ↓o_pick, ↓o_eqInt, ↓o_neInt, ↓o_eqBool, ↓o_neBool, ↓o_eqPtr, ↓o_nePtr, ↓o_eqPtr', ↓o_eqSl, ↓o_neSl, ↓o_eqStr, ↓o_neStr, ↓o_len, ↓o_lenS, ↓o_min, ↓o_max, ↓o_extract, ↓o_convInt, ↓cd_true, ↓cd_false, ↓gate_tt, ↓gate_ff, ↓gate_tf, ↓gate_ft, ↓gate_undef, ↓o_bind, ↓stay_v, ↓pop_cons, ↓fin_nil, Option.isNone_none, Option.isNone_some, Bool.not_true, Bool.not_false, Nat.zero_add, decide_true, decide_false, if_true, if_false, Bool.false_eq_true, ↓reduceIte]
    refine ld_in (b := xb) (v := .int .i64 x.id) h rfl ?_
    try simp only [↓o_nil, ↓o_field, ↓o_add, ↓o_sub, ↓o_mul, ↓o_lss, ↓o_leq, ↓o_gtr, ↓o_geq, ↓o_not, ↓o_pick, ↓o_eqInt, ↓o_neInt, ↓o_eqBool, ↓o_neBool, ↓o_eqPtr, ↓o_nePtr, ↓o_eqPtr', ↓o_eqSl, ↓o_neSl, ↓o_eqStr, ↓o_neStr, ↓o_len, ↓o_lenS, ↓o_min, ↓o_max, ↓o_extract, ↓o_convInt, ↓cd_true, ↓cd_false, ↓gate_tt, ↓gate_ff, ↓gate_tf, ↓gate_ft, ↓gate_undef, ↓o_bind, ↓stay_v, ↓pop_cons, ↓fin_nil, Option.isNone_none, Option.isNone_some, Bool.not_true, Bool.not_false, Nat.zero_add, decide_true, decide_false, if_true, if_false, Bool.false_eq_true, ↓reduceIte]
    refine ld_in (b := xb) (v := .int .i64 x.now) h rfl ?_
    rw [← star_assoc] at h
    refine RGet_spec oks (by omega) (both_R h) fun w h => ?_
    rw [o_extract, o_extract]
    refine ses_in (both_I h) fun bb w h => ?_
    refine ld_agg (b := ab) (xs := scells (getT t x.id x.now).1) h rfl ?_
    refine ld_agg (b := bb) (xs := scells (getT s x.id x.now).1) h rfl ?_
    refine two_cmp fun r hr => ?_
    refine k r v w (fun e => hr (by rw [e]; exact ⟨rfl, rfl⟩)) ?_
    rw [star_assoc] at h
    exact h.drop.drop.drop
  simp only [decide_eq_false k2, ↓o_nil, ↓o_field, ↓o_add, ↓o_sub, ↓o_mul, ↓o_lss, ↓o_leq, ↓o_gtr, ↓o_geq, ↓o_not, ↓o_pick, ↓o_eqInt, ↓o_neInt, ↓o_eqBool, ↓o_neBool, ↓o_eqPtr, ↓o_nePtr, ↓o_eqPtr', ↓o_eqSl, ↓o_neSl, ↓o_eqStr, ↓o_neStr, ↓o_len, ↓o_lenS, ↓o_min, ↓o_max, ↓o_extract, ↓o_convInt, ↓cd_true, ↓cd_false, ↓gate_tt, ↓gate_ff, ↓gate_tf, ↓gate_ft, ↓gate_undef, ↓o_bind, ↓stay_v, ↓pop_cons, ↓fin_nil, Option.isNone_none, Option.isNone_some, Bool.not_true, Bool.not_false, Nat.zero_add, decide_true, decide_false, if_true, if_false, Bool.false_eq_true, ↓reduceIte]
  by_cases k3 : x.kind = 3
  · have e : ∀ t, doT t x = (endT t x.id).1 := fun t => by unfold doT; rw [if_neg k0, if_neg k1, if_neg k2, if_pos k3]
    rw [e, e] at k
    simp only [decide_eq_true k3, ↓o_nil, ↓o_field, ↓o_add, ↓o_sub, ↓o_mul, ↓o_lss, ↓o_leq, ↓o_gtr, ↓o_geq, ↓o_not, ↓o_pick, ↓o_eqInt, ↓o_neInt, ↓o_eqBool, ↓o_neBool, ↓o_eqPtr, ↓o_nePtr, ↓o_eqPtr', ↓o_eqSl, ↓o_neSl, ↓o_eqStr, ↓o_neStr, ↓o_len, ↓o_lenS, ↓o_min, ↓o_max, ↓o_extract, ↓o_convInt, ↓cd_true, ↓cd_false, ↓gate_tt, ↓gate_ff, ↓gate_tf, ↓gate_ft, ↓gate_undef, ↓o_bind, ↓stay_v, ↓pop_cons, ↓fin_nil, Option.isNone_none, Option.isNone_some, Bool.not_true, Bool.not_false, Nat.zero_add, decide_true, decide_false, if_true, if_false, Bool.false_eq_true, ↓reduceIte]
    refine dr_sl h fun w h _ => ?_
    try simp only [↓o_nil, ↓o_field, ↓o_add, ↓o_sub, ↓o_mul, ↓o_lss, ↓o_leq, ↓o_gtr, ↓o_geq, ↓o_not, ↓o_pick, ↓o_eqInt, ↓o_neInt, ↓o_eqBool, ↓o_neBool, ↓o_eqPtr, ↓o_nePtr, ↓o_eqPtr', ↓o_eqSl, ↓o_neSl, ↓o_eqStr, ↓o_neStr, ↓o_len, ↓o_lenS, ↓o_min, ↓o_max, ↓o_extract, ↓o_convInt, ↓cd_true, ↓cd_false, ↓gate_tt, ↓gate_ff, ↓gate_tf, ↓gate_ft, ↓gate_undef, ↓o_bind, ↓stay_v, ↓pop_cons, ↓fin_nil, Option.isNone_none, Option.isNone_some, Bool.not_true, Bool.not_false, Nat.zero_add, decide_true, decide_false, if_true, if_false, Bool.false_eq_true, ↓reduceIte]
    refine ld_in (b := xb) (v := .int .i64 x.id) h rfl ?_
    try simp only [↓o_nil, ↓o_field, ↓o_add, ↓o_sub, ↓o_mul, ↓o_lss, ↓o_leq, ↓o_gtr, ↓o_geq, ↓o_not, ↓o_pick, ↓o_eqInt, ↓o_neInt, ↓o_eqBool, ↓o_neBool, ↓o_eqPtr, ↓o_nePtr, ↓o_eqPtr', ↓o_eqSl, ↓o_neSl, ↓o_eqStr, ↓o_neStr, ↓o_len, ↓o_lenS, ↓o_min, ↓o_max, ↓o_extract, ↓o_convInt, ↓cd_true, ↓cd_false, ↓gate_tt, ↓gate_ff, ↓gate_tf, ↓gate_ft, ↓gate_undef, ↓o_bind, ↓stay_v, ↓pop_cons, ↓fin_nil, Option.isNone_none, Option.isNone_some, Bool.not_true, Bool.not_false, Nat.zero_add, decide_true, decide_false, if_true, if_false, Bool.false_eq_true, ↓reduceIte]
    refine ld_in (b := xb) (v := .int .i64 x.id) h rfl ?_
    refine End_spec ok (tI_in h) fun w h => ?_
    have h := tI_out h
    refine st_in (b := xb) (v := .int .i64 x.id) h rfl ?_
    refine REnd_spec oks (by omega) (both_R h) fun v' w h => ?_
    have h := both_I h
    refine st_in (b := xb) (v := .int .i64 x.id) h rfl ?_
    rw [o_eqInt]
    exact k _ v' w (fun e => decide_eq_true (by rw [e])) h.drop
  simp only [decide_eq_false k3, ↓o_nil, ↓o_field, ↓o_add, ↓o_sub, ↓o_mul, ↓o_lss, ↓o_leq, ↓o_gtr, ↓o_geq, ↓o_not, ↓o_pick, ↓o_eqInt, ↓o_neInt, ↓o_eqBool, ↓o_neBool, ↓o_eqPtr, ↓o_nePtr, ↓o_eqPtr', ↓o_eqSl, ↓o_neSl, ↓o_eqStr, ↓o_neStr, ↓o_len, ↓o_lenS, ↓o_min, ↓o_max, ↓o_extract, ↓o_convInt, ↓cd_true, ↓cd_false, ↓gate_tt, ↓gate_ff, ↓gate_tf, ↓gate_ft, ↓gate_undef, ↓o_bind, ↓stay_v, ↓pop_cons, ↓fin_nil, Option.isNone_none, Option.isNone_some, Bool.not_true, Bool.not_false, Nat.zero_add, decide_true, decide_false, if_true, if_false, Bool.false_eq_true, ↓reduceIte]
  by_cases k4 : x.kind = 4
  · have e : ∀ t, doT t x = (endAllT t x.o).1 := fun t => by unfold doT; rw [if_neg k0, if_neg k1, if_neg k2, if_neg k3, if_pos k4]
    rw [e, e] at k
    simp only [decide_eq_true k4, ↓o_nil, ↓o_field, ↓o_add, ↓o_sub, ↓o_mul, ↓o_lss, ↓o_leq, ↓o_gtr, ↓o_geq, ↓o_not, ↓o_pick, ↓o_eqInt, ↓o_neInt, ↓o_eqBool, ↓o_neBool, ↓o_eqPtr, ↓o_nePtr, ↓o_eqPtr', ↓o_eqSl, ↓o_neSl, ↓o_eqStr, ↓o_neStr, ↓o_len, ↓o_lenS, ↓o_min, ↓o_max, ↓o_extract, ↓o_convInt, ↓cd_true, ↓cd_false, ↓gate_tt, ↓gate_ff, ↓gate_tf, ↓gate_ft, ↓gate_undef, ↓o_bind, ↓stay_v, ↓pop_cons, ↓fin_nil, Option.isNone_none, Option.isNone_some, Bool.not_true, Bool.not_false, Nat.zero_add, decide_true, decide_false, if_true, if_false, Bool.false_eq_true, ↓reduceIte]
    refine dr_sl h fun w h _ => ?_
    try simp only [↓o_nil, ↓o_field, ↓o_add, ↓o_sub, ↓o_mul, ↓o_lss, ↓o_leq, ↓o_gtr, ↓o_geq, ↓o_not, ↓o_pick, ↓o_eqInt, ↓o_neInt, ↓o_eqBool, ↓o_neBool, ↓o_eqPtr, ↓o_nePtr, ↓o_eqPtr', ↓o_eqSl, ↓o_neSl, ↓o_eqStr, ↓o_neStr, ↓o_len, ↓o_lenS, ↓o_min, ↓o_max, ↓o_extract, ↓o_convInt, ↓cd_true, ↓cd_false, ↓gate_tt, ↓gate_ff, ↓gate_tf, ↓gate_ft, ↓gate_undef, ↓o_bind, ↓stay_v, ↓pop_cons, ↓fin_nil, Option.isNone_none, Option.isNone_some, Bool.not_true, Bool.not_false, Nat.zero_add, decide_true, decide_false, if_true, if_false, Bool.false_eq_true, ↓reduceIte]
    refine ld_part (b := xb) h (ocells x.o) rfl (o_at x) ?_
    try simp only [↓o_nil, ↓o_field, ↓o_add, ↓o_sub, ↓o_mul, ↓o_lss, ↓o_leq, ↓o_gtr, ↓o_geq, ↓o_not, ↓o_pick, ↓o_eqInt, ↓o_neInt, ↓o_eqBool, ↓o_neBool, ↓o_eqPtr, ↓o_nePtr, ↓o_eqPtr', ↓o_eqSl, ↓o_neSl, ↓o_eqStr, ↓o_neStr, ↓o_len, ↓o_lenS, ↓o_min, ↓o_max, ↓o_extract, ↓o_convInt, ↓cd_true, ↓cd_false, ↓gate_tt, ↓gate_ff, ↓gate_tf, ↓gate_ft, ↓gate_undef, ↓o_bind, ↓stay_v, ↓pop_cons, ↓fin_nil, Option.isNone_none, Option.isNone_some, Bool.not_true, Bool.not_false, Nat.zero_add, decide_true, decide_false, if_true, if_false, Bool.false_eq_true, ↓reduceIte]
    refine ld_part (b := xb) h (ocells x.o) rfl (o_at x) ?_
    refine EndAll_spec ok (by omega) (tI_in h) fun u w h => ?_
    have h : sat E w (osl 3 1 u (endAllT t x.o).2.length ((endAllT t x.o).2.map iv) * (pts xb (.cells (ddcells x).toArray 49 (0, 0)) * tI p (endAllT t x.o).1 b (tR q s v R))) := h.perm (by unfold tI; ac_rfl)
    refine st_part (b := xb) h (ocells x.o) rfl (o_at x) ?_
    rw [← star_assoc] at h
    refine REndAll_spec oks (by omega) (both_R h) fun u2 v' w h => ?_
    have h : sat E w (osl 3 1 u (endAllT t x.o).2.length ((endAllT t x.o).2.map iv) * (osl 3 1 u2 (endAllT s x.o).2.length ((endAllT s x.o).2.map iv) * (pts xb (.cells (ddcells x).toArray 49 (0, 0)) * both p b q (endAllT t x.o).1 (endAllT s x.o).1 v' R))) := h.perm (by unfold both tI tR; ac_rfl)
    refine st_part (b := xb) h (ocells x.o) rfl (o_at x) ?_
    have hl : (endAllT t x.o).2.length ≤ 1000000 := by
      unfold endAllT
      rw [List.length_map]
      exact Nat.le_trans (List.length_filter_le _ _) (by omega)
    refine SameInts_specG h Rds.osl.left Rds.osl.left.right hl fun r w hr h => ?_
    refine st_part (b := xb) h (ocells x.o) rfl (o_at x) ?_
    refine st_part (b := xb) h (ocells x.o) rfl (o_at x) ?_
    exact k r v' w (fun e => hr (by rw [e])) h.drop.drop.drop
  simp only [decide_eq_false k4, ↓o_nil, ↓o_field, ↓o_add, ↓o_sub, ↓o_mul, ↓o_lss, ↓o_leq, ↓o_gtr, ↓o_geq, ↓o_not, ↓o_pick, ↓o_eqInt, ↓o_neInt, ↓o_eqBool, ↓o_neBool, ↓o_eqPtr, ↓o_nePtr, ↓o_eqPtr', ↓o_eqSl, ↓o_neSl, ↓o_eqStr, ↓o_neStr, ↓o_len, ↓o_lenS, ↓o_min, ↓o_max, ↓o_extract, ↓o_convInt, ↓cd_true, ↓cd_false, ↓gate_tt, ↓gate_ff, ↓gate_tf, ↓gate_ft, ↓gate_undef, ↓o_bind, ↓stay_v, ↓pop_cons, ↓fin_nil, Option.isNone_none, Option.isNone_some, Bool.not_true, Bool.not_false, Nat.zero_add, decide_true, decide_false, if_true, if_false, Bool.false_eq_true, ↓reduceIte]
  by_cases k5 : x.kind = 5
  · have e : ∀ t, doT t x = if timeE t x.now = 0 then (sweepT t x.now).1 else t := fun t => by unfold doT; rw [if_neg k0, if_neg k1, if_neg k2, if_neg k3, if_neg k4, if_pos k5]
    rw [e, e] at k
    simp only [decide_eq_true k5, ↓o_nil, ↓o_field, ↓o_add, ↓o_sub, ↓o_mul, ↓o_lss, ↓o_leq, ↓o_gtr, ↓o_geq, ↓o_not, ↓o_pick, ↓o_eqInt, ↓o_neInt, ↓o_eqBool, ↓o_neBool, ↓o_eqPtr, ↓o_nePtr, ↓o_eqPtr', ↓o_eqSl, ↓o_neSl, ↓o_eqStr, ↓o_neStr, ↓o_len, ↓o_lenS, ↓o_min, ↓o_max, ↓o_extract, ↓o_convInt, ↓cd_true, ↓cd_false, ↓gate_tt, ↓gate_ff, ↓gate_tf, ↓gate_ft, ↓gate_undef, ↓o_bind, ↓stay_v, ↓pop_cons, ↓fin_nil, Option.isNone_none, Option.isNone_some, Bool.not_true, Bool.not_false, Nat.zero_add, decide_true, decide_false, if_true, if_false, Bool.false_eq_true, ↓reduceIte]
    refine ld_in (b := xb) (v := .int .i64 x.now) h rfl ?_
    have go : ∀ (u : Value) (l : List Int) (e : Int) (t' : Tb) (w : World), (timeE t x.now ≠ 0 → l = [] ∧ e = timeE t x.now) → (timeE t x.now = 0 → l = (sweepT t x.now).2 ∧ e = 0) → l.length ≤ 1000000 → (if timeE t x.now = 0 then (sweepT t x.now).1 else t) = t' →
        sat E w (osl 3 1 u l.length (l.map iv) * (pts xb (.cells (ddcells x).toArray 49 (0, 0)) * tI p t' b (tR q s v R))) →
        pvv prog (Instr.fieldAt 49 (.pointer (some ⟨xb, 0, none⟩)) 3) w fun t_112 w =>
        ldv prog (Instr.loadAt 3 t_112) w fun t_113 w =>
        Calls prog 33 #[.pointer (some ⟨q, 0, none⟩), t_113] w (Ret fun t_114 w =>
        pvv prog (Instr.extract t_114 0) w fun t_115 w =>
        pvv prog (Instr.extract t_114 1) w fun t_116 w =>
        Calls prog 29 #[u, t_115] w (Ret fun t_117 w =>
        gate (some (t_117, true)) (fun K => K (.int .i64 e) w) w fun t_118 w =>
        gate (some (t_117, true)) (fun K => K t_116 w) w fun t_119 w =>
        gate (some (t_117, true)) (fun K => pvv prog (oEq .eql 34 (.tmp 155) (.tmp 156) t_118 t_119) w K) w fun t_120 w =>
        pv prog (oPick t_117 t_120 (.bool false)) w fun t_121 w =>
        K t_121 w)) := by
      intro u l e t' w hl0 hl1 hlen ht' h
      rw [ht'] at k
      try simp only [↓o_nil, ↓o_field, ↓o_add, ↓o_sub, ↓o_mul, ↓o_lss, ↓o_leq, ↓o_gtr, ↓o_geq, ↓o_not, ↓o_pick, ↓o_eqInt, ↓o_neInt, ↓o_eqBool, ↓o_neBool, ↓o_eqPtr, ↓o_nePtr, ↓o_eqPtr', ↓o_eqSl, ↓o_neSl, ↓o_eqStr, ↓o_neStr, ↓o_len, ↓o_lenS, ↓o_min, ↓o_max, ↓o_extract, ↓o_convInt, ↓cd_true, ↓cd_false, ↓gate_tt, ↓gate_ff, ↓gate_tf, ↓gate_ft, ↓gate_undef, ↓o_bind, ↓stay_v, ↓pop_cons, ↓fin_nil, Option.isNone_none, Option.isNone_some, Bool.not_true, Bool.not_false, Nat.zero_add, decide_true, decide_false, if_true, if_false, Bool.false_eq_true, ↓reduceIte]
      refine ld_in (b := xb) (v := .int .i64 x.now) h rfl ?_
      have h : sat E w ((osl 3 1 u l.length (l.map iv) * pts xb (.cells (ddcells x).toArray 49 (0, 0))) * tI p t' b (tR q s v R)) := h.perm (by unfold tI tR; ac_rfl)
      refine RSweep_spec oks (by omega) (both_R h) (fun he w h => ?_) (fun he u2 v' w h => ?_)
      · rw [o_extract, o_extract]
        have h : sat E w (osl 3 1 u l.length (l.map iv) * (pts xb (.cells (ddcells x).toArray 49 (0, 0)) * tI p t' b (tR q s v R))) := h.perm (by unfold tI tR; ac_rfl)
        have hn : ∀ H : HP, Rds H (.slice none 0 0) ([] : List Int).length (([] : List Int).map iv) := fun H E w hs => ⟨none, 0, rfl, Nat.le_refl _, .inl rfl⟩
        refine SameInts_specG (l' := []) h Rds.osl.left (hn _) hlen fun r w hr h => ?_
        refine one_cmp fun r' hr' => ?_
        rw [if_neg he] at k
        refine k r' v w (fun e2 => ?_) h.drop.drop
        rw [← e2] at he hr'
        obtain ⟨a1, a2⟩ := hl0 he
        exact hr' ⟨hr a1, a2⟩
      · rw [o_extract, o_extract]
        have h : sat E w (osl 3 1 u l.length (l.map iv) * (osl 3 1 u2 (sweepT s x.now).2.length ((sweepT s x.now).2.map iv) * (pts xb (.cells (ddcells x).toArray 49 (0, 0)) * tI p t' b (tR q (sweepT s x.now).1 v' R)))) := h.perm (by unfold tI tR; ac_rfl)
        refine SameInts_specG h Rds.osl.left Rds.osl.left.right hlen fun r w hr h => ?_
        refine one_cmp fun r' hr' => ?_
        rw [if_pos he] at k
        refine k r' v' w (fun e2 => ?_) h.drop.drop.drop
        rw [← e2] at he hr
        obtain ⟨a1, a2⟩ := hl1 he
        exact hr' ⟨hr a1, a2⟩
    refine Sweep_spec ok (by omega) (tI_in h) (fun he w h => ?_) (fun he u w h => ?_)
    · rw [o_extract, o_extract]
      have h := tI_out h
      have g := go (.slice none 0 0) [] _ t w (fun _ => ⟨rfl, rfl⟩) (fun he' => absurd he' he) (by simp) (by rw [if_neg he]) (osl_nil h 3 1)
      try simp only [↓o_nil, ↓o_field, ↓o_add, ↓o_sub, ↓o_mul, ↓o_lss, ↓o_leq, ↓o_gtr, ↓o_geq, ↓o_not, ↓o_pick, ↓o_eqInt, ↓o_neInt, ↓o_eqBool, ↓o_neBool, ↓o_eqPtr, ↓o_nePtr, ↓o_eqPtr', ↓o_eqSl, ↓o_neSl, ↓o_eqStr, ↓o_neStr, ↓o_len, ↓o_lenS, ↓o_min, ↓o_max, ↓o_extract, ↓o_convInt, ↓cd_true, ↓cd_false, ↓gate_tt, ↓gate_ff, ↓gate_tf, ↓gate_ft, ↓gate_undef, ↓o_bind, ↓stay_v, ↓pop_cons, ↓fin_nil, Option.isNone_none, Option.isNone_some, Bool.not_true, Bool.not_false, Nat.zero_add, decide_true, decide_false, if_true, if_false, Bool.false_eq_true, ↓reduceIte] at g
      exact g
    · rw [o_extract, o_extract]
      have h : sat E w (osl 3 1 u (sweepT t x.now).2.length ((sweepT t x.now).2.map iv) * (pts xb (.cells (ddcells x).toArray 49 (0, 0)) * tI p (sweepT t x.now).1 b (tR q s v R))) := h.perm (by unfold tI; ac_rfl)
      have hl : (sweepT t x.now).2.length ≤ 1000000 := by
        unfold sweepT
        rw [List.length_map]
        exact Nat.le_trans (List.length_filter_le _ _) (by omega)
      have g := go u _ 0 _ w (fun he' => absurd he he') (fun _ => ⟨rfl, rfl⟩) hl (by rw [if_pos he]) h
      try simp only [↓o_nil, ↓o_field, ↓o_add, ↓o_sub, ↓o_mul, ↓o_lss, ↓o_leq, ↓o_gtr, ↓o_geq, ↓o_not, ↓o_pick, ↓o_eqInt, ↓o_neInt, ↓o_eqBool, ↓o_neBool, ↓o_eqPtr, ↓o_nePtr, ↓o_eqPtr', ↓o_eqSl, ↓o_neSl, ↓o_eqStr, ↓o_neStr, ↓o_len, ↓o_lenS, ↓o_min, ↓o_max, ↓o_extract, ↓o_convInt, ↓cd_true, ↓cd_false, ↓gate_tt, ↓gate_ff, ↓gate_tf, ↓gate_ft, ↓gate_undef, ↓o_bind, ↓stay_v, ↓pop_cons, ↓fin_nil, Option.isNone_none, Option.isNone_some, Bool.not_true, Bool.not_false, Nat.zero_add, decide_true, decide_false, if_true, if_false, Bool.false_eq_true, ↓reduceIte] at g
      exact g
  simp only [decide_eq_false k5, ↓o_nil, ↓o_field, ↓o_add, ↓o_sub, ↓o_mul, ↓o_lss, ↓o_leq, ↓o_gtr, ↓o_geq, ↓o_not, ↓o_pick, ↓o_eqInt, ↓o_neInt, ↓o_eqBool, ↓o_neBool, ↓o_eqPtr, ↓o_nePtr, ↓o_eqPtr', ↓o_eqSl, ↓o_neSl, ↓o_eqStr, ↓o_neStr, ↓o_len, ↓o_lenS, ↓o_min, ↓o_max, ↓o_extract, ↓o_convInt, ↓cd_true, ↓cd_false, ↓gate_tt, ↓gate_ff, ↓gate_tf, ↓gate_ft, ↓gate_undef, ↓o_bind, ↓stay_v, ↓pop_cons, ↓fin_nil, Option.isNone_none, Option.isNone_some, Bool.not_true, Bool.not_false, Nat.zero_add, decide_true, decide_false, if_true, if_false, Bool.false_eq_true, ↓reduceIte]
  have e : ∀ t, doT t x = t := fun t => by unfold doT; rw [if_neg k0, if_neg k1, if_neg k2, if_neg k3, if_neg k4, if_neg k5]
  rw [e, e] at k
  refine ld_part (b := xb) h (ocells x.o) rfl (o_at x) ?_
  try simp only [↓o_nil, ↓o_field, ↓o_add, ↓o_sub, ↓o_mul, ↓o_lss, ↓o_leq, ↓o_gtr, ↓o_geq, ↓o_not, ↓o_pick, ↓o_eqInt, ↓o_neInt, ↓o_eqBool, ↓o_neBool, ↓o_eqPtr, ↓o_nePtr, ↓o_eqPtr', ↓o_eqSl, ↓o_neSl, ↓o_eqStr, ↓o_neStr, ↓o_len, ↓o_lenS, ↓o_min, ↓o_max, ↓o_extract, ↓o_convInt, ↓cd_true, ↓cd_false, ↓gate_tt, ↓gate_ff, ↓gate_tf, ↓gate_ft, ↓gate_undef, ↓o_bind, ↓stay_v, ↓pop_cons, ↓fin_nil, Option.isNone_none, Option.isNone_some, Bool.not_true, Bool.not_false, Nat.zero_add, decide_true, decide_false, if_true, if_false, Bool.false_eq_true, ↓reduceIte]
  refine ld_in (b := xb) (v := .int .i64 x.now) h rfl ?_
  have go : ∀ (u : Value) (l : List Ses) (e : Int) (w : World), (timeE t x.now ≠ 0 → l = [] ∧ e = timeE t x.now) → (timeE t x.now = 0 → l = liveL t x.o x.now ∧ e = 0) → l.length ≤ 900000 →
      sat E w (osl 25 5 u l.length (svs l) * (pts xb (.cells (ddcells x).toArray 49 (0, 0)) * tI p t b (tR q s v R))) →
      pvv prog (Instr.fieldAt 49 (.pointer (some ⟨xb, 0, none⟩)) 1) w fun t_129 w =>
      ldv prog (Instr.loadAt 23 t_129) w fun t_130 w =>
      pvv prog (Instr.fieldAt 49 (.pointer (some ⟨xb, 0, none⟩)) 3) w fun t_131 w =>
      ldv prog (Instr.loadAt 3 t_131) w fun t_132 w =>
      Calls prog 34 #[.pointer (some ⟨q, 0, none⟩), t_130, t_132] w (Ret fun t_133 w =>
      pvv prog (Instr.extract t_133 0) w fun t_134 w =>
      pvv prog (Instr.extract t_133 1) w fun t_135 w =>
      Calls prog 35 #[u, t_134] w (Ret fun t_136 w =>
      gate (some (t_136, true)) (fun K => K (.int .i64 e) w) w fun t_137 w =>
      gate (some (t_136, true)) (fun K => K t_135 w) w fun t_138 w =>
      gate (some (t_136, true)) (fun K => pvv prog (oEq .eql 34 (.tmp 181) (.tmp 182) t_137 t_138) w K) w fun t_139 w =>
      pv prog (oPick t_136 t_139 (.bool false)) w fun t_140 w =>
      gate (some (t_140, true)) (fun K => K u w) w fun t_141 w =>
      gate (some (t_140, true)) (fun K => pv prog (oBi .len #[37] 3 #[false] #[t_141]) w K) w fun t_142 w =>
      gate (some (t_140, true)) (fun K => pvv prog (binOp .leq 3 t_142 (.int .i64 1048576)) w K) w fun t_143 w =>
      pv prog (oPick t_140 t_143 (.bool false)) w fun t_144 w =>
      K t_144 w)) := by
    intro u l e w hl0 hl1 hlen h
    obtain ⟨ua, uc, rfl, _, _, _⟩ := osl_shape h
    have last : ∀ (r : Bool) (w : World) (K' : Value → World → Prop), K' (.bool r) w →
        gate (some (.bool r, true)) (fun K => K (.slice ua l.length uc) w) w fun t_141 w =>
        gate (some (.bool r, true)) (fun K => pv prog (oBi .len #[37] 3 #[false] #[t_141]) w K) w fun t_142 w =>
        gate (some (.bool r, true)) (fun K => pvv prog (binOp .leq 3 t_142 (.int .i64 1048576)) w K) w fun t_143 w =>
        pv prog (oPick (.bool r) t_143 (.bool false)) w fun t_144 w => K' t_144 w := by
      intro r w K' hk
      cases r
      · simp only [↓o_nil, ↓o_field, ↓o_add, ↓o_sub, ↓o_mul, ↓o_lss, ↓o_leq, ↓o_gtr, ↓o_geq, ↓o_not, ↓o_pick, ↓o_eqInt, ↓o_neInt, ↓o_eqBool, ↓o_neBool, ↓o_eqPtr, ↓o_nePtr, ↓o_eqPtr', ↓o_eqSl, ↓o_neSl, ↓o_eqStr, ↓o_neStr, ↓o_len, ↓o_lenS, ↓o_min, ↓o_max, ↓o_extract, ↓o_convInt, ↓cd_true, ↓cd_false, ↓gate_tt, ↓gate_ff, ↓gate_tf, ↓gate_ft, ↓gate_undef, ↓o_bind, ↓stay_v, ↓pop_cons, ↓fin_nil, Option.isNone_none, Option.isNone_some, Bool.not_true, Bool.not_false, Nat.zero_add, decide_true, decide_false, if_true, if_false, Bool.false_eq_true, ↓reduceIte]
        exact hk
      · simp only [decide_eq_true (show (l.length : Int) ≤ 1048576 by omega), ↓o_nil, ↓o_field, ↓o_add, ↓o_sub, ↓o_mul, ↓o_lss, ↓o_leq, ↓o_gtr, ↓o_geq, ↓o_not, ↓o_pick, ↓o_eqInt, ↓o_neInt, ↓o_eqBool, ↓o_neBool, ↓o_eqPtr, ↓o_nePtr, ↓o_eqPtr', ↓o_eqSl, ↓o_neSl, ↓o_eqStr, ↓o_neStr, ↓o_len, ↓o_lenS, ↓o_min, ↓o_max, ↓o_extract, ↓o_convInt, ↓cd_true, ↓cd_false, ↓gate_tt, ↓gate_ff, ↓gate_tf, ↓gate_ft, ↓gate_undef, ↓o_bind, ↓stay_v, ↓pop_cons, ↓fin_nil, Option.isNone_none, Option.isNone_some, Bool.not_true, Bool.not_false, Nat.zero_add, decide_true, decide_false, if_true, if_false, Bool.false_eq_true, ↓reduceIte]
        exact hk
    try simp only [↓o_nil, ↓o_field, ↓o_add, ↓o_sub, ↓o_mul, ↓o_lss, ↓o_leq, ↓o_gtr, ↓o_geq, ↓o_not, ↓o_pick, ↓o_eqInt, ↓o_neInt, ↓o_eqBool, ↓o_neBool, ↓o_eqPtr, ↓o_nePtr, ↓o_eqPtr', ↓o_eqSl, ↓o_neSl, ↓o_eqStr, ↓o_neStr, ↓o_len, ↓o_lenS, ↓o_min, ↓o_max, ↓o_extract, ↓o_convInt, ↓cd_true, ↓cd_false, ↓gate_tt, ↓gate_ff, ↓gate_tf, ↓gate_ft, ↓gate_undef, ↓o_bind, ↓stay_v, ↓pop_cons, ↓fin_nil, Option.isNone_none, Option.isNone_some, Bool.not_true, Bool.not_false, Nat.zero_add, decide_true, decide_false, if_true, if_false, Bool.false_eq_true, ↓reduceIte]
    refine ld_part (b := xb) h (ocells x.o) rfl (o_at x) ?_
    try simp only [↓o_nil, ↓o_field, ↓o_add, ↓o_sub, ↓o_mul, ↓o_lss, ↓o_leq, ↓o_gtr, ↓o_geq, ↓o_not, ↓o_pick, ↓o_eqInt, ↓o_neInt, ↓o_eqBool, ↓o_neBool, ↓o_eqPtr, ↓o_nePtr, ↓o_eqPtr', ↓o_eqSl, ↓o_neSl, ↓o_eqStr, ↓o_neStr, ↓o_len, ↓o_lenS, ↓o_min, ↓o_max, ↓o_extract, ↓o_convInt, ↓cd_true, ↓cd_false, ↓gate_tt, ↓gate_ff, ↓gate_tf, ↓gate_ft, ↓gate_undef, ↓o_bind, ↓stay_v, ↓pop_cons, ↓fin_nil, Option.isNone_none, Option.isNone_some, Bool.not_true, Bool.not_false, Nat.zero_add, decide_true, decide_false, if_true, if_false, Bool.false_eq_true, ↓reduceIte]
    refine ld_in (b := xb) (v := .int .i64 x.now) h rfl ?_
    have h : sat E w ((osl 25 5 (.slice ua l.length uc) l.length (svs l) * pts xb (.cells (ddcells x).toArray 49 (0, 0))) * tI p t b (tR q s v R)) := h.perm (by unfold tI tR; ac_rfl)
    refine RLive_spec oks (by omega) (both_R h) (fun he w h => ?_) (fun he u2 w h => ?_)
    · rw [o_extract, o_extract]
      have h : sat E w (osl 25 5 (.slice ua l.length uc) l.length (svs l) * (pts xb (.cells (ddcells x).toArray 49 (0, 0)) * tI p t b (tR q s v R))) := h.perm (by unfold tI tR; ac_rfl)
      have hn : ∀ H : HP, Rds H (.slice none 0 0) ([] : List Ses).length (svs []) := fun H E w hs => ⟨none, 0, rfl, Nat.le_refl _, .inl rfl⟩
      refine sameSes_specG (l' := []) h Rds.osl.left (hn _) (by omega) fun r w hr h => ?_
      refine one_cmp fun r' hr' => ?_
      refine last r' w K (k r' v w (fun e2 => ?_) h.drop.drop)
      rw [← e2] at he hr'
      obtain ⟨a1, a2⟩ := hl0 he
      exact hr' ⟨hr a1, a2⟩
    · rw [o_extract, o_extract]
      have h : sat E w (osl 25 5 (.slice ua l.length uc) l.length (svs l) * (osl 25 5 u2 (liveL s x.o x.now).length (svs (liveL s x.o x.now)) * (pts xb (.cells (ddcells x).toArray 49 (0, 0)) * tI p t b (tR q s v R)))) := h.perm (by unfold tI tR; ac_rfl)
      refine sameSes_specG h Rds.osl.left Rds.osl.left.right (by omega) fun r w hr h => ?_
      refine one_cmp fun r' hr' => ?_
      refine last r' w K (k r' v w (fun e2 => ?_) h.drop.drop.drop)
      rw [← e2] at he hr
      obtain ⟨a1, a2⟩ := hl1 he
      exact hr' ⟨hr a1, a2⟩
  refine Live_spec ok (by omega) (tI_in h) (fun he w h => ?_) (fun he u w h => ?_)
  · rw [o_extract, o_extract]
    have h := tI_out h
    have g := go (.slice none 0 0) [] _ w (fun _ => ⟨rfl, rfl⟩) (fun he' => absurd he' he) (by simp) (osl_nil h 25 5)
    try simp only [↓o_nil, ↓o_field, ↓o_add, ↓o_sub, ↓o_mul, ↓o_lss, ↓o_leq, ↓o_gtr, ↓o_geq, ↓o_not, ↓o_pick, ↓o_eqInt, ↓o_neInt, ↓o_eqBool, ↓o_neBool, ↓o_eqPtr, ↓o_nePtr, ↓o_eqPtr', ↓o_eqSl, ↓o_neSl, ↓o_eqStr, ↓o_neStr, ↓o_len, ↓o_lenS, ↓o_min, ↓o_max, ↓o_extract, ↓o_convInt, ↓cd_true, ↓cd_false, ↓gate_tt, ↓gate_ff, ↓gate_tf, ↓gate_ft, ↓gate_undef, ↓o_bind, ↓stay_v, ↓pop_cons, ↓fin_nil, Option.isNone_none, Option.isNone_some, Bool.not_true, Bool.not_false, Nat.zero_add, decide_true, decide_false, if_true, if_false, Bool.false_eq_true, ↓reduceIte] at g
    exact g
  · rw [o_extract, o_extract]
    have h : sat E w (osl 25 5 u (liveL t x.o x.now).length (svs (liveL t x.o x.now)) * (pts xb (.cells (ddcells x).toArray 49 (0, 0)) * tI p t b (tR q s v R))) := h.perm (by unfold tI; ac_rfl)
    have hl : (liveL t x.o x.now).length ≤ 900000 := Nat.le_trans (List.length_filter_le _ _) (by omega)
    have g := go u _ 0 w (fun he' => absurd he he') (fun _ => ⟨rfl, rfl⟩) hl h
    try simp only [↓o_nil, ↓o_field, ↓o_add, ↓o_sub, ↓o_mul, ↓o_lss, ↓o_leq, ↓o_gtr, ↓o_geq, ↓o_not, ↓o_pick, ↓o_eqInt, ↓o_neInt, ↓o_eqBool, ↓o_neBool, ↓o_eqPtr, ↓o_nePtr, ↓o_eqPtr', ↓o_eqSl, ↓o_neSl, ↓o_eqStr, ↓o_neStr, ↓o_len, ↓o_lenS, ↓o_min, ↓o_max, ↓o_extract, ↓o_convInt, ↓cd_true, ↓cd_false, ↓gate_tt, ↓gate_ff, ↓gate_tf, ↓gate_ft, ↓gate_undef, ↓o_bind, ↓stay_v, ↓pop_cons, ↓fin_nil, Option.isNone_none, Option.isNone_some, Bool.not_true, Bool.not_false, Nat.zero_add, decide_true, decide_false, if_true, if_false, Bool.false_eq_true, ↓reduceIte] at g
    exact g
theorem do_spec {p b q m : Nat} {t : Tb} {v : Value} {x : Dd} (ok : OkT t m) (hm : m ≤ 900000) (ho : shortO x.o) (h : sat E w (both p b q t t v R))
    (k : ∀ v' w', sat E w' (both p b q (doT t x) (doT t x) v' R) → K (.bool true) w') : Calls prog 17 #[.pointer (some ⟨p, 0, none⟩), .pointer (some ⟨q, 0, none⟩), .agg (ddcells x).toArray] w (Ret K) :=
  do_specG ok ok hm ho h fun r v' w hr h => by rw [hr rfl]; exact k v' w h
end Go.Proofs.YticbbnjhiiimcaaDoor

/-
  Few sessions of one user; what is over stays over. No program in sight.
-/
set_option linter.all false
set_option maxRecDepth 100000
namespace Go.Proofs.YticbbnjhiiimcaaDoor
open Go Hold
theorem mine_mono {o : Own2} {n m : Int} {x : Ses} (h : n ≤ m) (hm : isMine o m x = true) : isMine o n x = true := by
  unfold isMine at hm ⊢
  rw [Bool.and_eq_true, decide_eq_true_iff, decide_eq_true_iff] at hm ⊢
  exact ⟨hm.1, by omega⟩
def Few (t : Tb) : Prop := ∀ o now, t.noted ≤ now → (liveL t o now).length ≤ 3
theorem few_new : Few newT := fun o now _ => by simp [liveL, newT]
theorem filter_le {α β : Type} {f : α → β} {p : β → Bool} {q : α → Bool} {l : List α} (h : ∀ x ∈ l, p (f x) = true → q x = true) : ((l.map f).filter p).length ≤ (l.filter q).length := by
  induction l with
  | nil => simp
  | cons x l ih =>
    have ih := ih fun y hy => h y (by simp [hy])
    have hx := h x (by simp)
    rw [List.map_cons, List.filter_cons, List.filter_cons]
    by_cases h1 : p (f x) = true
    · rw [if_pos h1, if_pos (hx h1)]; simpa using ih
    · rw [if_neg h1]
      split
      · simp only [List.length_cons]; omega
      · exact ih
theorem filter_le' {α : Type} {p q : α → Bool} {l : List α} (h : ∀ x ∈ l, p x = true → q x = true) : (l.filter p).length ≤ (l.filter q).length := by
  have := filter_le (f := id) (l := l) h
  simpa using this
theorem few_sub {t t' : Tb} (f : Few t) (hn : t.noted ≤ t'.noted) (hl : t'.l.Sublist t.l) : Few t' := fun o now h =>
  Nat.le_trans (List.Sublist.length_le (hl.filter _)) (f o now (by omega))
theorem few_do {t : Tb} {m : Nat} {x : Dd} (ok : OkT t m) (f : Few t) : Few (doT t x) := by
  unfold doT
  split
  · unfold beginT
    repeat' split
    all_goals try exact f
    rename_i h1 h2 h3 h4
    have h2 : timeE t x.now = 0 := by simpa using h2
    obtain ⟨_, _, hn⟩ := time_ok h2
    intro o now hx
    have hx : x.now ≤ now := hx
    unfold liveL
    simp only [List.filter_append, List.length_append]
    by_cases ho : o = x.o
    · subst ho
      have : (t.l.filter (isMine x.o now)).length ≤ (liveL t x.o x.now).length := filter_le' fun y _ hy => mine_mono hx hy
      have h5 : ([(⟨t.next, x.o.tn, x.o.us, x.now, x.now⟩ : Ses)].filter (isMine x.o now)).length ≤ 1 := List.length_filter_le _ _
      omega
    · have h6 : isMine o now ⟨t.next, x.o.tn, x.o.us, x.now, x.now⟩ = false := by
        unfold isMine
        rw [decide_eq_false (fun e => ho (by rw [← e]; rfl)), Bool.false_and]
      rw [List.filter_cons, if_neg (by simp [h6])]
      have := f o now (by omega)
      unfold liveL at this
      simpa using this
  · split
    · unfold touchT
      split
      · rename_i h0
        obtain ⟨he, hm, hid, hu⟩ := getT_ok ok h0
        obtain ⟨_, _, hn⟩ := time_ok he
        generalize hy : (getT t x.id x.now).1 = y at hm hid hu ⊢
        intro o now hx
        have hx : x.now ≤ now := hx
        refine Nat.le_trans ?_ (f o x.now hn)
        unfold liveL put1
        refine filter_le fun z hz hp => ?_
        split at hp
        · rename_i e
          have : z = y := by
            obtain ⟨i, hi, ei⟩ := List.getElem_of_mem hz
            obtain ⟨j, hj, ej⟩ := List.getElem_of_mem hm
            have h1 := findS_at ok.rise (i := i) (x := z) (by rw [List.getElem?_eq_getElem hi, ei])
            have h2 := findS_at ok.rise (i := j) (x := y) (by rw [List.getElem?_eq_getElem hj, ej])
            have e : z.id = y.id := e
            rw [e, h2] at h1
            exact (Option.some.inj h1).symm
          subst this
          unfold isMine at hp ⊢
          rw [Bool.and_eq_true, decide_eq_true_iff, decide_eq_true_iff] at hp ⊢
          exact ⟨hp.1, hu⟩
        · exact mine_mono hx hp
      · exact f
    · split
      · exact f
      · split
        · exact few_sub f (Int.le_refl _) List.filter_sublist
        · split
          · exact few_sub f (Int.le_refl _) List.filter_sublist
          · split
            · split
              · rename_i he
                exact few_sub f (time_ok he).2.2 List.filter_sublist
              · exact f
            · exact f
structure Gone (t : Tb) (id : Int) : Prop where
  a : 1 ≤ id
  b : id < t.next
  c : ∀ x ∈ t.l, x.id ≠ id
theorem gone_find {t : Tb} {id : Int} (g : Gone t id) : findT t id = (zeroS, 12) := by
  unfold findT
  rw [if_neg (by have := g.a; have := g.b; omega)]
  cases hf : findS t.l id with
  | none => rfl
  | some x => exact absurd (findS_some hf).2 (g.c x (findS_some hf).1)
theorem gone_get {t : Tb} {id now : Int} (g : Gone t id) : getT t id now = (zeroS, timeE t now) ∧ timeE t now ≠ 0 ∨ getT t id now = (zeroS, 12) := by
  unfold getT
  by_cases he : timeE t now = 0
  · right
    rw [if_neg (by simpa using he), gone_find g]
    simp
  · left
    rw [if_pos he]
    exact ⟨rfl, he⟩
theorem gone_touch {t : Tb} {id now : Int} (g : Gone t id) : (touchT t id now).1 = t ∧ (touchT t id now).2.2 ≠ 0 := by
  unfold touchT
  rcases gone_get (now := now) g with ⟨e, he⟩ | e
  · rw [if_neg (by rw [e]; exact he)]
    exact ⟨rfl, by rw [e]; exact he⟩
  · rw [if_neg (by rw [e]; decide)]
    exact ⟨rfl, by rw [e]; exact (by decide : (12 : Int) ≠ 0)⟩
theorem gone_end {t : Tb} {id : Int} (g : Gone t id) : (endT t id).1 = t ∧ (endT t id).2 = 12 := by
  unfold endT
  rw [gone_find g, drop1_none g.c]
  exact ⟨rfl, rfl⟩
theorem gone_of_end {t : Tb} {id : Int} (h : (endT t id).2 ≠ 4) : Gone (endT t id).1 id := by
  unfold endT findT at h
  unfold endT
  split at h
  · exact absurd rfl h
  · rename_i h1
    refine ⟨by omega, by simp only; omega, fun x hx => ?_⟩
    have := (List.mem_filter.1 hx).2
    simpa using this
theorem gone_sub {t t' : Tb} {id : Int} (g : Gone t id) (hn : t.next ≤ t'.next) (hl : ∀ x ∈ t'.l, x ∈ t.l) : Gone t' id := ⟨g.a, by have := g.b; omega, fun x hx => g.c x (hl x hx)⟩
theorem gone_do {t : Tb} {id : Int} {x : Dd} (g : Gone t id) : Gone (doT t x) id := by
  have gb := g.b
  unfold doT
  split
  · unfold beginT
    repeat' split
    all_goals try exact g
    refine ⟨g.a, by simp only; omega, fun y hy => ?_⟩
    rcases List.mem_append.1 hy with hy | hy
    · exact g.c y hy
    · rw [List.mem_singleton.1 hy]; simp only; omega
  · split
    · unfold touchT
      split
      · refine ⟨g.a, gb, fun y hy => ?_⟩
        obtain ⟨z, hz, rfl⟩ := List.mem_map.1 hy
        split
        · rename_i e; rw [← e]; exact g.c z hz
        · exact g.c z hz
      · exact g
    · repeat' split
      all_goals first | exact g | exact gone_sub g (Int.le_refl _) fun y hy => (List.mem_filter.1 hy).1
end Go.Proofs.YticbbnjhiiimcaaDoor
