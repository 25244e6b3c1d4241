/-
  SessionFew: the walk.
-/
import Derived.Test.YticbbnjhiiimcaaDoorSesU
import Derived.Test.YticbbnjhiiimcaaDoorSesO
import Derived.Test.YticbbnjhiiimcaaDoorTests
set_option linter.all false
set_option maxRecDepth 100000
namespace Go.Proofs.YticbbnjhiiimcaaDoor.Few7
open Go Hold Go.ChangeShapes Go.WideShapes Go.ChangeAt Go.RowKit
variable {E : World0} {w : World} {H R : HP} {K : Value → World → Prop}
theorem Few_spec (h : sat E w H) {v : Value} (l : List Dd) (hl : Rds H v l.length (l.flatMap ddcells)) (ml : l.length ≤ 9223372036854775807) (sl : ∀ x ∈ l, shortO x.o) (o : Own2) (so : shortO o) (now : Int) (_ : -9223372036854775808 ≤ now ∧ now ≤ 9223372036854775807)
    (k : ∀ w', sat E w' H → K (.bool true) w') : Calls prog 7 #[v, .agg (ocells o).toArray, .int .i64 now] w (Ret K) := by
  obtain ⟨va, vc, rfl, hvc, hl, _⟩ := hl.shape h
  refine c7 ?_
  unfold B7
  refine box_sl h fun ob w h => ?_
  have h : sat E w (boxO ob o * H) := h
  refine New_spec h fun p b w h => ?_
  refine RNew_spec h fun q w h => ?_
  refine live_spec h fun w h => ?_
  simp only [↓o_not, Bool.not_true, ↓cd_false]
  have h : sat E w (both p b q newT newT (.slice none 0 0) (boxO ob o * H)) := by
    unfold both tI tR at h ⊢
    exact h.perm (by ac_rfl)
  refine lp_nat (fun r σ w => ∃ (i : Nat) (t : Tb) (v : Value), σ = [.int .i64 (i : Int)] ∧ r = 80 - i ∧ i ≤ 80 ∧ OkT t i ∧ Few t ∧ sat E w (both p b q t t v (boxO ob o * H))) 80
    ⟨0, newT, _, rfl, rfl, by omega, ok_newT, few_new, h⟩ ?_
  clear h
  rintro r σ w again ⟨i, t, tv, rfl, rfl, hi, ok, f, h⟩ hag
  rw [pop_cons, fin_nil, o_len, two_lss]
  refine cd_dec (fun hlt => ?_) (fun hge => ?_)
  · have hi1 : i < l.length := by omega
    have hx : l[i]? = some l[i] := List.getElem?_eq_getElem hi1
    have hm : l[i] ∈ l := List.getElem_mem hi1
    generalize l[i] = x at hx hm
    obtain ⟨b', o', c', e, hc', hrd⟩ := hl.opened h.drop.drop.drop.drop.drop (by rw [fm_length (k := 5) (fun _ => rfl)]; omega)
    cases e
    rw [o_index (by omega) (by omega)]
    refine ld_el h (Rds.under hrd) (i * 5) (by simp) (ddcells x) rfl (fm_at (k := 5) (fun _ => rfl) hx) ?_
    refine do_spec ok (by omega) (sl x hm) h fun v' w h => ?_
    rw [o_add, i64_of (by omega) (by omega)]
    exact hag (80 - (i + 1)) _ _ (by omega) ⟨i + 1, doT t x, v', rfl, rfl, by omega, ok_do ok, few_do ok f, h⟩
  · refine ld_agg (b := ob) h rfl ?_
    refine Live_spec ok (by omega) h (fun he w h => ?_) (fun he u w h => ?_)
    · rw [o_extract, o_extract]
      simp only [he, show decide ((0 : Int) = 0) = true from rfl, show decide (((0 : Nat) : Int) = 0) = true from rfl, ↓o_nil, ↓o_field, ↓o_add, ↓o_sub, ↓o_mul, ↓o_lss, ↓o_leq, ↓o_gtr, ↓o_geq, ↓o_not, ↓o_pick, ↓o_eqInt, ↓o_neInt, ↓o_eqBool, ↓o_neBool, ↓o_eqPtr, ↓o_nePtr, ↓o_eqPtr', ↓o_eqSl, ↓o_neSl, ↓o_eqStr, ↓o_neStr, ↓o_len, ↓o_lenS, ↓o_min, ↓o_max, ↓o_extract, ↓o_convInt, ↓cd_true, ↓cd_false, ↓gate_tt, ↓gate_ff, ↓gate_tf, ↓gate_ft, ↓gate_undef, ↓o_bind, ↓stay_v, ↓pop_cons, ↓fin_nil, Option.isNone_none, Option.isNone_some, Bool.not_true, Bool.not_false, Nat.zero_add, decide_true, decide_false, if_true, if_false, Bool.false_eq_true, ↓reduceIte]
      exact k w h.drop.drop.drop.drop.drop
    · rw [o_extract, o_extract]
      have h3 := f o now (time_ok he).2.2
      obtain ⟨ua, uc, rfl, _, _, _⟩ := osl_shape h
      simp only [show decide ((0 : Int) = 0) = true from rfl, decide_eq_true (show ((liveL t o now).length : Int) ≤ 3 by omega), ↓o_nil, ↓o_field, ↓o_add, ↓o_sub, ↓o_mul, ↓o_lss, ↓o_leq, ↓o_gtr, ↓o_geq, ↓o_not, ↓o_pick, ↓o_eqInt, ↓o_neInt, ↓o_eqBool, ↓o_neBool, ↓o_eqPtr, ↓o_nePtr, ↓o_eqPtr', ↓o_eqSl, ↓o_neSl, ↓o_eqStr, ↓o_neStr, ↓o_len, ↓o_lenS, ↓o_min, ↓o_max, ↓o_extract, ↓o_convInt, ↓cd_true, ↓cd_false, ↓gate_tt, ↓gate_ff, ↓gate_tf, ↓gate_ft, ↓gate_undef, ↓o_bind, ↓stay_v, ↓pop_cons, ↓fin_nil, Option.isNone_none, Option.isNone_some, Bool.not_true, Bool.not_false, Nat.zero_add, decide_true, decide_false, if_true, if_false, Bool.false_eq_true, ↓reduceIte]
      exact k w h.drop.drop.drop.drop.drop.drop
end Go.Proofs.YticbbnjhiiimcaaDoor.Few7
