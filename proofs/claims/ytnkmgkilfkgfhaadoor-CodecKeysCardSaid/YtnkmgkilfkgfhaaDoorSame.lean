/-
  Copies and comparisons of the reference.
-/
import Derived.Test.YtnkmgkilfkgfhaaDoorPI
import Derived.Test.YtnkmgkilfkgfhaaDoorPB
import Derived.Test.YtnkmgkilfkgfhaaDoorArr
set_option linter.all false
set_option maxRecDepth 10000
namespace Go.Proofs.YtnkmgkilfkgfhaaDoor
open Go Hold
variable {E : World0} {w : World} {H R : HP} {K : Value → World → Prop}

/-- Copy, of the references. -/
theorem Copy_spec (h : sat E w H) {v : Value} {l : List UInt8} (hr : Rds H v l.length (l.map bv)) (hl : l.length ≤ 140737488355328)
    (k : ∀ v' w', sat E w' (osl 5 1 v' l.length (l.map bv) * H) → K v' w') : Calls prog 24 #[v] w (Ret K) := by
  obtain ⟨a, c, rfl, hc, hr, ha⟩ := hr.shape h
  refine c24 ?_
  unfold B24
  refine append_sl (osl_nil h 5 1) (l.map bv) (by simp) (hr.win h) (bv_one l) (by omega) (by omega) ?_
  intro v' w2 h2
  exact k _ _ (by simpa using h2)

/-- SameBytes. -/
theorem SameBytes_spec (h : sat E w H) {v u : Value} {l m : List UInt8} (hv : Rds H v l.length (l.map bv)) (hu : Rds H u m.length (m.map bv)) (hl : l.length ≤ 140737488355328)
    (k : ∀ w', sat E w' H → K (.bool (decide (l = m))) w') : Calls prog 16 #[v, u] w (Ret K) := by
  obtain ⟨a, c, rfl, hc, hv, ha⟩ := hv.shape h
  obtain ⟨a', c', rfl, hc', hu, ha'⟩ := hu.shape h
  refine c16 ?_
  unfold B16
  simp only [↓o_nil, ↓o_field, ↓o_add, ↓o_sub, ↓o_mul, ↓o_lss, ↓o_leq, ↓o_gtr, ↓o_geq, ↓o_not, ↓o_pick, ↓o_eqInt, ↓o_neInt, ↓o_eqBool, ↓o_neBool, ↓o_eqPtr, ↓o_nePtr, ↓o_eqPtr', ↓o_eqSl, ↓o_neSl, ↓o_eqStr, ↓o_neStr, ↓o_len, ↓o_lenS, ↓o_min, ↓o_max, ↓o_extract, ↓o_convInt, ↓cd_true, ↓cd_false, ↓gate_tt, ↓gate_ff, ↓gate_tf, ↓gate_ft, ↓gate_undef, ↓o_bind, ↓stay_v, ↓pop_cons, ↓fin_nil, Option.isNone_none, Option.isNone_some, Bool.not_true, Bool.not_false, Nat.zero_add, decide_true, decide_false, if_true, if_false, Bool.false_eq_true, ↓reduceIte]
  refine cd_dec' (fun he => ?_) (fun hne => ?_)
  · have he : l.length = m.length := by omega
    refine lp_nat (fun n σ w => ∃ i : Nat, σ = [.int .i64 i] ∧ n = l.length - i ∧ i ≤ l.length ∧ l.take i = m.take i ∧ sat E w H) l.length ⟨0, rfl, rfl, by omega, rfl, h⟩ ?_
    rintro n σ w again ⟨i, rfl, rfl, hi, heq, h⟩ hag
    simp only [↓o_nil, ↓o_field, ↓o_add, ↓o_sub, ↓o_mul, ↓o_lss, ↓o_leq, ↓o_gtr, ↓o_geq, ↓o_not, ↓o_pick, ↓o_eqInt, ↓o_neInt, ↓o_eqBool, ↓o_neBool, ↓o_eqPtr, ↓o_nePtr, ↓o_eqPtr', ↓o_eqSl, ↓o_neSl, ↓o_eqStr, ↓o_neStr, ↓o_len, ↓o_lenS, ↓o_min, ↓o_max, ↓o_extract, ↓o_convInt, ↓cd_true, ↓cd_false, ↓gate_tt, ↓gate_ff, ↓gate_tf, ↓gate_ft, ↓gate_undef, ↓o_bind, ↓stay_v, ↓pop_cons, ↓fin_nil, Option.isNone_none, Option.isNone_some, Bool.not_true, Bool.not_false, Nat.zero_add, decide_true, decide_false, if_true, if_false, Bool.false_eq_true, ↓reduceIte]
    refine cd_dec (fun hlt => ?_) (fun hge => ?_)
    · have hlt : i < l.length := by simpa using hlt
      refine dr_sl h fun w h _ => ?_
      obtain ⟨b, o, rfl, hb⟩ := win_cell (hv.win h) (j := i) (by simpa using hlt)
      obtain ⟨b', o', rfl, hb'⟩ := win_cell (hu.win h) (j := i) (by simp; omega)
      rw [o_index (by omega) (by omega), o_index (by omega) (by omega)]
      simp only [Int.toNat_natCast, Nat.mul_one]
      refine ld_cell hb ?_
      refine ld_cell hb' ?_
      simp only [List.getElem_map, bv, ↓o_nil, ↓o_field, ↓o_add, ↓o_sub, ↓o_mul, ↓o_lss, ↓o_leq, ↓o_gtr, ↓o_geq, ↓o_not, ↓o_pick, ↓o_eqInt, ↓o_neInt, ↓o_eqBool, ↓o_neBool, ↓o_eqPtr, ↓o_nePtr, ↓o_eqPtr', ↓o_eqSl, ↓o_neSl, ↓o_eqStr, ↓o_neStr, ↓o_len, ↓o_lenS, ↓o_min, ↓o_max, ↓o_extract, ↓o_convInt, ↓cd_true, ↓cd_false, ↓gate_tt, ↓gate_ff, ↓gate_tf, ↓gate_ft, ↓gate_undef, ↓o_bind, ↓stay_v, ↓pop_cons, ↓fin_nil, Option.isNone_none, Option.isNone_some, Bool.not_true, Bool.not_false, Nat.zero_add, decide_true, decide_false, if_true, if_false, Bool.false_eq_true, ↓reduceIte]
      refine cd_dec' (fun hx => ?_) (fun hx => ?_)
      · rw [i64_of (by omega) (by omega)]
        have hx' : l[i] = m[i] := UInt8.toNat_inj.1 (by omega)
        refine hag (l.length - (i + 1)) _ _ (by omega) ⟨i + 1, rfl, rfl, by omega, ?_, h⟩
        rw [List.take_succ_eq_append_getElem hlt, List.take_succ_eq_append_getElem (by omega), heq, hx']
      · have : ¬ l = m := by rintro rfl; exact hx rfl
        have := k w h
        simpa [*] using this
    · have hge : i = l.length := by omega
      subst hge
      have : l = m := by rw [List.take_length] at heq; rw [heq]; rw [he]; simp
      have hk := k w h
      simpa [this] using hk
  · have : ¬ l = m := by rintro rfl; exact hne rfl
    have hk := k w h
    simpa [this] using hk
end Go.Proofs.YtnkmgkilfkgfhaaDoor
