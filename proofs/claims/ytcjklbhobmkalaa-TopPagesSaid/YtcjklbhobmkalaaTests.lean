/-
  clear(s) of a slice whose elements are of one cell.
-/
import Derived.Test.YtcjklbhobmkalaaVc
import Derived.Lib.SliceRun
import Derived.Test.YtcjklbhobmkalaaElems
set_option linter.all false
namespace Hold
open Go
variable {P : Program} {E : World0} {w : World} {H R : HP} {K : Value → World → Prop}
theorem clear_slice (h : sat E w H) {t e ty b o n c eb : Nat} {cs : Array Bool} {xs : List Value} {z : Value} [i : Ul P t (.slice e)] [q : ZeroC P e z] [hb : Own H b (.cells xs.toArray eb (0, 0)) R] (hz : z.oneCell' = true) (hn : 0 < n) (hl : o + n ≤ xs.length)
    (k : ∀ w', sat E w' (pts b (.cells (xs.take o ++ List.replicate n z ++ xs.drop (o + n)).toArray eb (0, 0)) * R) → K (.tuple #[]) w') : ef P (oBi .clear #[t] ty cs #[.slice (some ⟨b, o, none⟩) n c]) w K := by
  have h2 := h.own b
  have hcz : z.cells = #[z] := by cases z <;> first | rfl | cases hz
  have hzc : (Builtin.zeroCells z.cells n).toList = List.replicate n z := by
    rw [hcz]
    simp [Builtin.zeroCells]
    apply List.ext_getElem
    · simp
    · intro i h1 h2
      simp [Nat.mod_one]
  have hst := run_storeCells_at P b o eb (List.replicate n z) 0 xs.toArray w h2.pts_get (by simp; omega) (by intro v hv; rw [List.eq_of_mem_replicate hv]; exact hz)
  rw [setRow_putObj h2.pts_get] at hst
  refine ef_of (v := .tuple #[]) (w' := w.putObj b (.cells (xs.take o ++ List.replicate n z ++ xs.drop (o + n)).toArray eb (0, 0))) ?_ (k _ (h2.set _))
  obtain ⟨m, rfl⟩ : ∃ m, n = m + 1 := ⟨n - 1, by omega⟩
  simp [oBi, builtin, Builtin.clear_, run_underlying' i.ul, run_zero q, hzc, hst]
end Hold

/-
  Two tests, one behind the other; a read whose guard is shut.
-/
set_option linter.all false
namespace Hold
open Go
section
variable {P : Program} {E : World0} {w : World} {K : Value → World → Prop}
theorem two_lss {t : TypeId} {kk : IntKind} {a b c : Int} {k : Value → World → Prop} :
    (pvv P (binOp .lss t (.int kk a) (.int kk b)) w fun t_7 w => gate (some (t_7, true)) (fun K => K (.int kk a) w) w fun t_8 w => gate (some (t_7, true)) (fun K => pvv P (binOp .lss t t_8 (.int kk c)) w K) w fun t_9 w => pv P (oPick t_7 t_9 (.bool false)) w fun t_10 w => k t_10 w) = k (.bool (decide (a < b ∧ a < c))) w := by
  rw [o_lss]
  by_cases h1 : a < b
  · by_cases h2 : a < c
    · simp only [h1, h2, and_self, ↓o_nil, ↓o_field, ↓o_add, ↓o_sub, ↓o_mul, ↓o_lss, ↓o_leq, ↓o_gtr, ↓o_geq, ↓o_not, ↓o_pick, ↓o_eqInt, ↓o_neInt, ↓o_eqBool, ↓o_neBool, ↓o_eqPtr, ↓o_nePtr, ↓o_eqPtr', ↓o_eqSl, ↓o_neSl, ↓o_eqStr, ↓o_neStr, ↓o_len, ↓o_lenS, ↓o_min, ↓o_max, ↓o_extract, ↓o_convInt, ↓cd_true, ↓cd_false, ↓gate_tt, ↓gate_ff, ↓gate_tf, ↓gate_ft, ↓gate_undef, ↓o_bind, ↓stay_v, ↓pop_cons, ↓fin_nil, Option.isNone_none, Option.isNone_some, Bool.not_true, Bool.not_false, Nat.zero_add, decide_true, decide_false, if_true, if_false, Bool.false_eq_true, ↓reduceIte]
    · simp only [h1, h2, and_false, ↓o_nil, ↓o_field, ↓o_add, ↓o_sub, ↓o_mul, ↓o_lss, ↓o_leq, ↓o_gtr, ↓o_geq, ↓o_not, ↓o_pick, ↓o_eqInt, ↓o_neInt, ↓o_eqBool, ↓o_neBool, ↓o_eqPtr, ↓o_nePtr, ↓o_eqPtr', ↓o_eqSl, ↓o_neSl, ↓o_eqStr, ↓o_neStr, ↓o_len, ↓o_lenS, ↓o_min, ↓o_max, ↓o_extract, ↓o_convInt, ↓cd_true, ↓cd_false, ↓gate_tt, ↓gate_ff, ↓gate_tf, ↓gate_ft, ↓gate_undef, ↓o_bind, ↓stay_v, ↓pop_cons, ↓fin_nil, Option.isNone_none, Option.isNone_some, Bool.not_true, Bool.not_false, Nat.zero_add, decide_true, decide_false, if_true, if_false, Bool.false_eq_true, ↓reduceIte]
  · simp only [h1, false_and, ↓o_nil, ↓o_field, ↓o_add, ↓o_sub, ↓o_mul, ↓o_lss, ↓o_leq, ↓o_gtr, ↓o_geq, ↓o_not, ↓o_pick, ↓o_eqInt, ↓o_neInt, ↓o_eqBool, ↓o_neBool, ↓o_eqPtr, ↓o_nePtr, ↓o_eqPtr', ↓o_eqSl, ↓o_neSl, ↓o_eqStr, ↓o_neStr, ↓o_len, ↓o_lenS, ↓o_min, ↓o_max, ↓o_extract, ↓o_convInt, ↓cd_true, ↓cd_false, ↓gate_tt, ↓gate_ff, ↓gate_tf, ↓gate_ft, ↓gate_undef, ↓o_bind, ↓stay_v, ↓pop_cons, ↓fin_nil, Option.isNone_none, Option.isNone_some, Bool.not_true, Bool.not_false, Nat.zero_add, decide_true, decide_false, if_true, if_false, Bool.false_eq_true, ↓reduceIte]
theorem st_shut {s : Sem Value} {v : Value} {b want : Bool} {A : Prop} (h : b ≠ want) (k : A) : stv P (some (.bool b, want)) s v w A := ⟨fun hw => by simp [wantedG] at hw; exact absurd hw h, k⟩
end
end Hold
