/-
  Copies and comparisons.
-/
import Derived.Test.YtjeiojibnmfibaaDoorPI
import Derived.Test.YtjeiojibnmfibaaDoorPB
import Derived.Test.YtjeiojibnmfibaaDoorArr
set_option linter.all false
set_option maxRecDepth 10000
namespace Go.Proofs.YtjeiojibnmfibaaDoor
open Go Hold
variable {E : World0} {w : World} {H R : HP} {K : Value → World → Prop}

theorem Clone_spec (h : sat E w H) {v : Value} {l : List UInt8} (hr : Rds H v l.length (l.map bv)) (hl : l.length ≤ 140737488355328)
    (k : ∀ v' w', sat E w' (osl 5 1 v' l.length (l.map bv) * H) → K v' w') : Calls prog 69 #[v] w (Ret K) := by
  obtain ⟨a, c, rfl, hc, hr, ha⟩ := hr.shape h
  refine c69 ?_
  unfold B69
  simp only [↓o_nil, ↓o_field, ↓o_add, ↓o_sub, ↓o_mul, ↓o_lss, ↓o_leq, ↓o_gtr, ↓o_geq, ↓o_not, ↓o_pick, ↓o_eqInt, ↓o_neInt, ↓o_eqBool, ↓o_neBool, ↓o_eqPtr, ↓o_nePtr, ↓o_eqPtr', ↓o_eqSl, ↓o_neSl, ↓o_eqStr, ↓o_neStr, ↓o_len, ↓o_lenS, ↓o_min, ↓o_max, ↓o_extract, ↓o_convInt, ↓cd_true, ↓cd_false, ↓gate_tt, ↓gate_ff, ↓gate_tf, ↓gate_ft, ↓gate_undef, ↓o_bind, ↓stay_v, ↓pop_cons, ↓fin_nil, Option.isNone_none, Option.isNone_some, Bool.not_true, Bool.not_false, Nat.zero_add, decide_true, decide_false, if_true, if_false, Bool.false_eq_true, ↓reduceIte]
  cases a with
  | none =>
    have hn : l = [] := by simpa using ha rfl
    subst hn
    simp only [↓o_nil, ↓o_field, ↓o_add, ↓o_sub, ↓o_mul, ↓o_lss, ↓o_leq, ↓o_gtr, ↓o_geq, ↓o_not, ↓o_pick, ↓o_eqInt, ↓o_neInt, ↓o_eqBool, ↓o_neBool, ↓o_eqPtr, ↓o_nePtr, ↓o_eqPtr', ↓o_eqSl, ↓o_neSl, ↓o_eqStr, ↓o_neStr, ↓o_len, ↓o_lenS, ↓o_min, ↓o_max, ↓o_extract, ↓o_convInt, ↓cd_true, ↓cd_false, ↓gate_tt, ↓gate_ff, ↓gate_tf, ↓gate_ft, ↓gate_undef, ↓o_bind, ↓stay_v, ↓pop_cons, ↓fin_nil, Option.isNone_none, Option.isNone_some, Bool.not_true, Bool.not_false, Nat.zero_add, decide_true, decide_false, if_true, if_false, Bool.false_eq_true, ↓reduceIte]
    exact k _ _ (osl_nil h 5 1)
  | some a =>
    simp only [↓o_nil, ↓o_field, ↓o_add, ↓o_sub, ↓o_mul, ↓o_lss, ↓o_leq, ↓o_gtr, ↓o_geq, ↓o_not, ↓o_pick, ↓o_eqInt, ↓o_neInt, ↓o_eqBool, ↓o_neBool, ↓o_eqPtr, ↓o_nePtr, ↓o_eqPtr', ↓o_eqSl, ↓o_neSl, ↓o_eqStr, ↓o_neStr, ↓o_len, ↓o_lenS, ↓o_min, ↓o_max, ↓o_extract, ↓o_convInt, ↓cd_true, ↓cd_false, ↓gate_tt, ↓gate_ff, ↓gate_tf, ↓gate_ft, ↓gate_undef, ↓o_bind, ↓stay_v, ↓pop_cons, ↓fin_nil, Option.isNone_none, Option.isNone_some, Bool.not_true, Bool.not_false, Nat.zero_add, decide_true, decide_false, if_true, if_false, Bool.false_eq_true, ↓reduceIte]
    refine buildSlice_sl h (e := 5) (cs := #[]) (fun w => by kernel_rfl) ?_
    intro b w1 h1
    refine append_sl (osl_of (n := 0) (sz := 1) h1 rfl (by omega)) (l.map bv) (by simp) (hr.win h1.drop) (bv_one l) (by omega) (by omega) ?_
    intro v' w2 h2
    exact k _ _ (by simpa using h2)

end Go.Proofs.YtjeiojibnmfibaaDoor
