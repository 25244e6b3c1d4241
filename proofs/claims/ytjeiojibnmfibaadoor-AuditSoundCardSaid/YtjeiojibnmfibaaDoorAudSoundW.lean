/-
  AuditSound: the walk.
-/
import Derived.Test.YtjeiojibnmfibaaDoorAudQ
set_option linter.all false
set_option maxRecDepth 100000
namespace Go.Proofs.YtjeiojibnmfibaaDoor.Sound
open Go Hold Go.ChangeShapes Go.WideShapes Go.ChangeAt Go.RowKit
variable {E : World0} {w : World} {H R : HP} {K : Value → World → Prop}
theorem Sound_spec (h : sat E w H) (hd : Dbt H) {v : Value} (l : List Deed) (hl : Rds H v l.length (l.flatMap dcells)) (ml : l.length ≤ 9223372036854775807)
    (k : ∀ w', sat E w' H → K (.bool true) w') : Calls prog 8 #[v] w (Ret K) := by
  obtain ⟨va, vc, rfl, hvc, hl, _⟩ := hl.shape h
  refine c8 ?_
  unfold B8
  refine New_spec h fun p w h => ?_
  refine RNew_spec h fun q w h => ?_
  have h := swapRI h
  refine live_spec h hd.up fun w h => ?_
  simp only [↓o_not, Bool.not_true, ↓cd_false]
  refine lp_nat (fun r σ w => ∃ (i : Nat) (s : Ch) (v1 v2 : Value), σ = [.int .i64 (i : Int)] ∧ r = 100 - i ∧ i ≤ 100 ∧ Ok s i ∧ Risen s ∧ Right s ∧ Small s ∧ sat E w (chI p s v1 (chR q s v2 H))) 100
    ⟨0, newS, _, _, rfl, rfl, by omega, ok_new, inv_new, right_new, small_new, h⟩ ?_
  clear h
  rintro r σ w again ⟨i, s, v1, v2, rfl, rfl, hi, ok, rn, rt, sm, h⟩ hag
  rw [pop_cons, fin_nil, o_len, two_tests]
  refine cd_dec (fun hlt => ?_) (fun hge => ?_)
  · obtain ⟨hlt1, hlt2⟩ := hlt
    have hi2 : i < l.length := by omega
    have h0 : sat E w H := by unfold chI chR at h; exact h.drop.drop.drop.drop
    obtain ⟨b, o, c', e, hc', hrd⟩ := hl.opened h0 (by rw [fm_length (k := 5) (fun _ => rfl)]; omega)
    cases e
    rw [o_index (by omega) (by omega)]
    refine ld_el h (Rds.under hrd) (i * 5) (by simp) (dcells l[i]) rfl (deeds_at (List.getElem?_eq_getElem hi2)) ?_
    refine do_spec ok (by omega) hd.up h fun v' u' w h => ?_
    have rt' := right_do (x := l[i]) ok rt
    refine Verify_spec (ok_do (x := l[i]) ok) (by omega) hd.up h fun w h => ?_
    rw [rt'.ok, o_neInt, show (!decide ((0 : Int) = 0)) = false from rfl, cd_false]
    rw [o_add, i64_of (by omega) (by omega)]
    exact hag (100 - (i + 1)) _ _ (by omega) ⟨i + 1, doS s l[i], v', u', rfl, rfl, by omega, ok_do ok, inv_do rn, rt', small_do sm, h⟩
  · refine Rows_spec ok (by omega) hd.up h fun u rows w hs h => ?_
    refine Load_spec ok (by omega) sm rn hd.up hs h fun p2 v3 w h => ?_
    rw [o_extract, o_extract]
    simp only [show decide ((0 : Int) = 0) = true from rfl, ↓o_nil, ↓o_field, ↓o_add, ↓o_sub, ↓o_mul, ↓o_lss, ↓o_leq, ↓o_gtr, ↓o_geq, ↓o_not, ↓o_pick, ↓o_eqInt, ↓o_neInt, ↓o_eqBool, ↓o_neBool, ↓o_eqPtr, ↓o_nePtr, ↓o_eqPtr', ↓o_eqSl, ↓o_neSl, ↓o_eqStr, ↓o_neStr, ↓o_len, ↓o_lenS, ↓o_min, ↓o_max, ↓o_extract, ↓o_convInt, ↓cd_true, ↓cd_false, ↓gate_tt, ↓gate_ff, ↓gate_tf, ↓gate_ft, ↓gate_undef, ↓o_bind, ↓stay_v, ↓pop_cons, ↓fin_nil, Option.isNone_none, Option.isNone_some, Bool.not_true, Bool.not_false, Nat.zero_add, decide_true, decide_false, if_true, if_false, Bool.false_eq_true, ↓reduceIte]
    refine Verify_spec ok (by omega) hd.up h fun w h => ?_
    rw [rt.ok]
    simp only [show decide ((0 : Int) = 0) = true from rfl, ↓o_nil, ↓o_field, ↓o_add, ↓o_sub, ↓o_mul, ↓o_lss, ↓o_leq, ↓o_gtr, ↓o_geq, ↓o_not, ↓o_pick, ↓o_eqInt, ↓o_neInt, ↓o_eqBool, ↓o_neBool, ↓o_eqPtr, ↓o_nePtr, ↓o_eqPtr', ↓o_eqSl, ↓o_neSl, ↓o_eqStr, ↓o_neStr, ↓o_len, ↓o_lenS, ↓o_min, ↓o_max, ↓o_extract, ↓o_convInt, ↓cd_true, ↓cd_false, ↓gate_tt, ↓gate_ff, ↓gate_tf, ↓gate_ft, ↓gate_undef, ↓o_bind, ↓stay_v, ↓pop_cons, ↓fin_nil, Option.isNone_none, Option.isNone_some, Bool.not_true, Bool.not_false, Nat.zero_add, decide_true, decide_false, if_true, if_false, Bool.false_eq_true, ↓reduceIte]
    unfold chI chR at h
    exact k w h.drop.drop.drop.drop.drop.drop.drop.drop
end Go.Proofs.YtjeiojibnmfibaaDoor.Sound
