/-
  SessionOver: the walk.
-/
import Derived.Test.YticbbnjhiiimcaaDoorSesU
import Derived.Test.YticbbnjhiiimcaaDoorSesO
import Derived.Test.YticbbnjhiiimcaaDoorTests
set_option linter.all false
set_option maxRecDepth 100000
namespace Go.Proofs.YticbbnjhiiimcaaDoor.Over
open Go Hold Go.ChangeShapes Go.WideShapes Go.ChangeAt Go.RowKit
variable {E : World0} {w : World} {H R : HP} {K : Value → World → Prop}
theorem Over_spec (h : sat E w H) {v u : Value} (l : List Dd) (hl : Rds H v l.length (l.flatMap ddcells)) (ml : l.length ≤ 9223372036854775807) (sl : ∀ x ∈ l, shortO x.o) (id : Int) (_ : -9223372036854775808 ≤ id ∧ id ≤ 9223372036854775807)
    (m : List Dd) (hm : Rds H u m.length (m.flatMap ddcells)) (mm : m.length ≤ 9223372036854775807) (sm : ∀ x ∈ m, shortO x.o)
    (k : ∀ w', sat E w' H → K (.bool true) w') : Calls prog 6 #[v, .int .i64 id, u] w (Ret K) := by
  obtain ⟨va, vc, rfl, hvc, hl, _⟩ := hl.shape h
  obtain ⟨ua, uc, rfl, huc, hm, _⟩ := hm.shape h
  refine c6 ?_
  unfold B6
  refine New_spec h fun p b w h => ?_
  refine RNew_spec h fun q w h => ?_
  refine live_spec h fun w h => ?_
  simp only [↓o_not, Bool.not_true, ↓cd_false]
  have h : sat E w (both p b q newT newT (.slice none 0 0) H) := by
    unfold both tI tR at h ⊢
    exact h.perm (by ac_rfl)
  refine lp_nat (fun r σ w => ∃ (i : Nat) (t : Tb) (v : Value), σ = [.int .i64 (i : Int)] ∧ r = 40 - i ∧ i ≤ 40 ∧ OkT t i ∧ sat E w (both p b q t t v H)) 40
    ⟨0, newT, _, rfl, rfl, by omega, ok_newT, h⟩ ?_
  clear h
  rintro r σ w again ⟨i, t, tv, rfl, rfl, hi, ok, h⟩ hag
  rw [pop_cons, fin_nil, o_len, two_lss]
  refine cd_dec (fun hlt => ?_) (fun hge => ?_)
  · have hi1 : i < l.length := by omega
    have hx : l[i]? = some l[i] := List.getElem?_eq_getElem hi1
    have hmem : l[i] ∈ l := List.getElem_mem hi1
    generalize l[i] = x at hx hmem
    obtain ⟨b', o', c', e, hc', hrd⟩ := hl.opened h.drop.drop.drop.drop (by rw [fm_length (k := 5) (fun _ => rfl)]; omega)
    cases e
    rw [o_index (by omega) (by omega)]
    refine ld_el h (Rds.under hrd) (i * 5) (by simp) (ddcells x) rfl (fm_at (k := 5) (fun _ => rfl) hx) ?_
    refine do_spec ok (by omega) (sl x hmem) h fun v' w h => ?_
    rw [o_add, i64_of (by omega) (by omega)]
    exact hag (40 - (i + 1)) _ _ (by omega) ⟨i + 1, doT t x, v', rfl, rfl, by omega, ok_do ok, h⟩
  · clear hag
    refine End_spec ok h fun w h => ?_
    rw [o_eqInt]
    by_cases h4 : (endT t id).2 = 4
    · rw [decide_eq_true h4, cd_true]
      exact k w h.drop.drop.drop.drop
    rw [decide_eq_false h4, cd_false]
    have g := gone_of_end h4
    have ok0 := ok
    have ok := ok_end (id := id) ok
    generalize (endT t id).1 = t1 at h g ok
    refine lp_nat (fun r σ w => ∃ (j : Nat) (n : Int) (t s : Tb) (v : Value), σ = [.int .i64 n, .int .i64 (j : Int)] ∧ r = 40 - j ∧ j ≤ 40 ∧ OkT t (i + j) ∧ OkT s (i + j) ∧ Gone t id ∧ sat E w (both p b q t s v H)) 40
      ⟨0, 0, t1, t, tv, rfl, rfl, by omega, ok, ok0, g, h⟩ ?_
    clear h ok ok0 g
    rintro r σ w again ⟨j, n, t, s, tv, rfl, rfl, hj, ok, ok0, g, h⟩ hag
    rw [pop_cons, pop_cons, fin_nil, o_len, two_lss]
    refine cd_dec (fun hlt => ?_) (fun hge => ?_)
    · have hi1 : j < m.length := by omega
      have hx : m[j]? = some m[j] := List.getElem?_eq_getElem hi1
      have hmem : m[j] ∈ m := List.getElem_mem hi1
      generalize m[j] = x at hx hmem
      obtain ⟨b', o', c', e, hc', hrd⟩ := hm.opened h.drop.drop.drop.drop (by rw [fm_length (k := 5) (fun _ => rfl)]; omega)
      cases e
      have ix : ∀ {w : World} {K : Value → World → Prop}, pvv prog (Instr.indexAt 44 (.slice (some ⟨b', o', none⟩) m.length uc) (.int .i64 (j : Int))) w K = K (.pointer (some ⟨b', o' + j * 5, none⟩)) w := fun {w K} => by
        rw [o_index (by omega) (by omega), Int.toNat_natCast]
      rw [ix]
      refine ld_el h (Rds.under hrd) (j * 5) (by simp) (ddcells x) rfl (fm_at (k := 5) (fun _ => rfl) hx) ?_
      refine do_specG ok ok0 (by omega) (sm x hmem) h fun r v' w _ h => ?_
      have ok := ok_do (x := x) ok
      have ok0 := ok_do (x := x) ok0
      have g := gone_do (x := x) g
      generalize doT t x = t at ok g h
      generalize doT s x = s at ok0 h
      have hnow : (m.flatMap ddcells)[j * 5 + 4]? = some (.int .i64 x.now) := take_cell (fm_at (k := 5) (fun _ => rfl) hx) rfl
      refine jn_cut (fun σ w => ∃ n : Int, σ = [.int .i64 n] ∧ sat E w (both p b q t s v' H)) (fun kj hkj => ?_) ?_
      · rw [ix]
        simp only [↓o_nil, ↓o_field, ↓o_add, ↓o_sub, ↓o_mul, ↓o_lss, ↓o_leq, ↓o_gtr, ↓o_geq, ↓o_not, ↓o_pick, ↓o_eqInt, ↓o_neInt, ↓o_eqBool, ↓o_neBool, ↓o_eqPtr, ↓o_nePtr, ↓o_eqPtr', ↓o_eqSl, ↓o_neSl, ↓o_eqStr, ↓o_neStr, ↓o_len, ↓o_lenS, ↓o_min, ↓o_max, ↓o_extract, ↓o_convInt, ↓cd_true, ↓cd_false, ↓gate_tt, ↓gate_ff, ↓gate_tf, ↓gate_ft, ↓gate_undef, ↓o_bind, ↓stay_v, ↓pop_cons, ↓fin_nil, Option.isNone_none, Option.isNone_some, Bool.not_true, Bool.not_false, Nat.zero_add, decide_true, decide_false, if_true, if_false, Bool.false_eq_true, ↓reduceIte]
        refine ld_rd h (Rds.under hrd) (j * 5 + 4) (by omega) hnow ?_
        rw [o_gtr]
        by_cases h1 : n < x.now
        · simp only [decide_eq_true h1, ix, ↓o_nil, ↓o_field, ↓o_add, ↓o_sub, ↓o_mul, ↓o_lss, ↓o_leq, ↓o_gtr, ↓o_geq, ↓o_not, ↓o_pick, ↓o_eqInt, ↓o_neInt, ↓o_eqBool, ↓o_neBool, ↓o_eqPtr, ↓o_nePtr, ↓o_eqPtr', ↓o_eqSl, ↓o_neSl, ↓o_eqStr, ↓o_neStr, ↓o_len, ↓o_lenS, ↓o_min, ↓o_max, ↓o_extract, ↓o_convInt, ↓cd_true, ↓cd_false, ↓gate_tt, ↓gate_ff, ↓gate_tf, ↓gate_ft, ↓gate_undef, ↓o_bind, ↓stay_v, ↓pop_cons, ↓fin_nil, Option.isNone_none, Option.isNone_some, Bool.not_true, Bool.not_false, Nat.zero_add, decide_true, decide_false, if_true, if_false, Bool.false_eq_true, ↓reduceIte]
          refine ld_rd h (Rds.under hrd) (j * 5 + 4) (by omega) hnow ?_
          try simp only [↓o_nil, ↓o_field, ↓o_add, ↓o_sub, ↓o_mul, ↓o_lss, ↓o_leq, ↓o_gtr, ↓o_geq, ↓o_not, ↓o_pick, ↓o_eqInt, ↓o_neInt, ↓o_eqBool, ↓o_neBool, ↓o_eqPtr, ↓o_nePtr, ↓o_eqPtr', ↓o_eqSl, ↓o_neSl, ↓o_eqStr, ↓o_neStr, ↓o_len, ↓o_lenS, ↓o_min, ↓o_max, ↓o_extract, ↓o_convInt, ↓cd_true, ↓cd_false, ↓gate_tt, ↓gate_ff, ↓gate_tf, ↓gate_ft, ↓gate_undef, ↓o_bind, ↓stay_v, ↓pop_cons, ↓fin_nil, Option.isNone_none, Option.isNone_some, Bool.not_true, Bool.not_false, Nat.zero_add, decide_true, decide_false, if_true, if_false, Bool.false_eq_true, ↓reduceIte]
          by_cases h2 : x.now ≤ 1099511627776
          · simp only [decide_eq_true h2, ix, ↓o_nil, ↓o_field, ↓o_add, ↓o_sub, ↓o_mul, ↓o_lss, ↓o_leq, ↓o_gtr, ↓o_geq, ↓o_not, ↓o_pick, ↓o_eqInt, ↓o_neInt, ↓o_eqBool, ↓o_neBool, ↓o_eqPtr, ↓o_nePtr, ↓o_eqPtr', ↓o_eqSl, ↓o_neSl, ↓o_eqStr, ↓o_neStr, ↓o_len, ↓o_lenS, ↓o_min, ↓o_max, ↓o_extract, ↓o_convInt, ↓cd_true, ↓cd_false, ↓gate_tt, ↓gate_ff, ↓gate_tf, ↓gate_ft, ↓gate_undef, ↓o_bind, ↓stay_v, ↓pop_cons, ↓fin_nil, Option.isNone_none, Option.isNone_some, Bool.not_true, Bool.not_false, Nat.zero_add, decide_true, decide_false, if_true, if_false, Bool.false_eq_true, ↓reduceIte]
            refine ld_rd h (Rds.under hrd) (j * 5 + 4) (by omega) hnow ?_
            exact hkj _ _ ⟨_, rfl, h⟩
          · simp only [decide_eq_false h2, ↓o_nil, ↓o_field, ↓o_add, ↓o_sub, ↓o_mul, ↓o_lss, ↓o_leq, ↓o_gtr, ↓o_geq, ↓o_not, ↓o_pick, ↓o_eqInt, ↓o_neInt, ↓o_eqBool, ↓o_neBool, ↓o_eqPtr, ↓o_nePtr, ↓o_eqPtr', ↓o_eqSl, ↓o_neSl, ↓o_eqStr, ↓o_neStr, ↓o_len, ↓o_lenS, ↓o_min, ↓o_max, ↓o_extract, ↓o_convInt, ↓cd_true, ↓cd_false, ↓gate_tt, ↓gate_ff, ↓gate_tf, ↓gate_ft, ↓gate_undef, ↓o_bind, ↓stay_v, ↓pop_cons, ↓fin_nil, Option.isNone_none, Option.isNone_some, Bool.not_true, Bool.not_false, Nat.zero_add, decide_true, decide_false, if_true, if_false, Bool.false_eq_true, ↓reduceIte]
            exact hkj _ _ ⟨_, rfl, h⟩
        · simp only [decide_eq_false h1, ↓o_nil, ↓o_field, ↓o_add, ↓o_sub, ↓o_mul, ↓o_lss, ↓o_leq, ↓o_gtr, ↓o_geq, ↓o_not, ↓o_pick, ↓o_eqInt, ↓o_neInt, ↓o_eqBool, ↓o_neBool, ↓o_eqPtr, ↓o_nePtr, ↓o_eqPtr', ↓o_eqSl, ↓o_neSl, ↓o_eqStr, ↓o_neStr, ↓o_len, ↓o_lenS, ↓o_min, ↓o_max, ↓o_extract, ↓o_convInt, ↓cd_true, ↓cd_false, ↓gate_tt, ↓gate_ff, ↓gate_tf, ↓gate_ft, ↓gate_undef, ↓o_bind, ↓stay_v, ↓pop_cons, ↓fin_nil, Option.isNone_none, Option.isNone_some, Bool.not_true, Bool.not_false, Nat.zero_add, decide_true, decide_false, if_true, if_false, Bool.false_eq_true, ↓reduceIte]
          exact hkj _ _ ⟨_, rfl, h⟩
      · clear h
        rintro σ w ⟨n', rfl, h⟩
        rw [pop_cons, fin_nil]
        refine Get_spec ok h fun w h => ?_
        have e1 : getT t id 1099511627776 = (zeroS, 12) := by
          rcases gone_get (now := 1099511627776) g with ⟨_, he⟩ | e
          · refine absurd ?_ he
            have := ok.t1
            unfold timeE
            rw [if_neg (by omega), if_neg (by omega)]
          · exact e
        rw [e1, o_extract, o_extract]
        refine ses_in (x := zeroS) h fun ab w h => ?_
        try simp only [ix, ↓o_nil, ↓o_field, ↓o_add, ↓o_sub, ↓o_mul, ↓o_lss, ↓o_leq, ↓o_gtr, ↓o_geq, ↓o_not, ↓o_pick, ↓o_eqInt, ↓o_neInt, ↓o_eqBool, ↓o_neBool, ↓o_eqPtr, ↓o_nePtr, ↓o_eqPtr', ↓o_eqSl, ↓o_neSl, ↓o_eqStr, ↓o_neStr, ↓o_len, ↓o_lenS, ↓o_min, ↓o_max, ↓o_extract, ↓o_convInt, ↓cd_true, ↓cd_false, ↓gate_tt, ↓gate_ff, ↓gate_tf, ↓gate_ft, ↓gate_undef, ↓o_bind, ↓stay_v, ↓pop_cons, ↓fin_nil, Option.isNone_none, Option.isNone_some, Bool.not_true, Bool.not_false, Nat.zero_add, decide_true, decide_false, if_true, if_false, Bool.false_eq_true, ↓reduceIte]
        refine ld_rd h (Rds.under hrd) (j * 5 + 4) (by omega) hnow ?_
        refine Touch_spec ok (tI_in h) fun w h => ?_
        obtain ⟨e2, e3⟩ := gone_touch (now := x.now) g
        rw [e2] at h
        rw [o_extract, o_extract]
        refine ses_in (tI_out h) fun bb w h => ?_
        rw [show (oEq .neq 34 : Operand → Operand → Value → Value → Sem Value) = oEq .neq 34 from rfl]
        simp only [show decide ((12 : Int) = 12) = true from rfl, decide_eq_false e3, ↓o_nil, ↓o_field, ↓o_add, ↓o_sub, ↓o_mul, ↓o_lss, ↓o_leq, ↓o_gtr, ↓o_geq, ↓o_not, ↓o_pick, ↓o_eqInt, ↓o_neInt, ↓o_eqBool, ↓o_neBool, ↓o_eqPtr, ↓o_nePtr, ↓o_eqPtr', ↓o_eqSl, ↓o_neSl, ↓o_eqStr, ↓o_neStr, ↓o_len, ↓o_lenS, ↓o_min, ↓o_max, ↓o_extract, ↓o_convInt, ↓cd_true, ↓cd_false, ↓gate_tt, ↓gate_ff, ↓gate_tf, ↓gate_ft, ↓gate_undef, ↓o_bind, ↓stay_v, ↓pop_cons, ↓fin_nil, Option.isNone_none, Option.isNone_some, Bool.not_true, Bool.not_false, Nat.zero_add, decide_true, decide_false, if_true, if_false, Bool.false_eq_true, ↓reduceIte]
        refine End_spec ok (tI_in (X := pts bb _ * pts ab _) (by rw [star_assoc]; exact h)) fun w h => ?_
        obtain ⟨e4, e5⟩ := gone_end g
        rw [e4] at h
        rw [e5]
        simp only [show decide ((12 : Int) = 12) = true from rfl, ↓o_nil, ↓o_field, ↓o_add, ↓o_sub, ↓o_mul, ↓o_lss, ↓o_leq, ↓o_gtr, ↓o_geq, ↓o_not, ↓o_pick, ↓o_eqInt, ↓o_neInt, ↓o_eqBool, ↓o_neBool, ↓o_eqPtr, ↓o_nePtr, ↓o_eqPtr', ↓o_eqSl, ↓o_neSl, ↓o_eqStr, ↓o_neStr, ↓o_len, ↓o_lenS, ↓o_min, ↓o_max, ↓o_extract, ↓o_convInt, ↓cd_true, ↓cd_false, ↓gate_tt, ↓gate_ff, ↓gate_tf, ↓gate_ft, ↓gate_undef, ↓o_bind, ↓stay_v, ↓pop_cons, ↓fin_nil, Option.isNone_none, Option.isNone_some, Bool.not_true, Bool.not_false, Nat.zero_add, decide_true, decide_false, if_true, if_false, Bool.false_eq_true, ↓reduceIte]
        rw [i64_of (by omega) (by omega)]
        refine hag (40 - (j + 1)) _ _ (by omega) ⟨j + 1, n', t, s, v', rfl, rfl, by omega, ok, ok0, g, ?_⟩
        have h := tI_out h
        rw [star_assoc] at h
        exact h.drop.drop
    · exact k _ h.drop.drop.drop.drop
end Go.Proofs.YticbbnjhiiimcaaDoor.Over
