/-
  clear(s) of a slice whose elements are of one cell.
-/
import Derived.Test.YtfaeklinhchidaaGreatStrs
import Derived.Lib.SliceRun
set_option linter.all false
namespace Hold
open Go
variable {P : Program} {E : World0} {w : World} {H R : HP} {K : Value → World → Prop}
theorem clear_slice (h : sat E w H) {t e ty b o n c eb : Nat} {cs : Array Bool} {xs : List Value} {z : Value} [i : Ul P t (.slice e)] [q : ZeroC P e z] [hb : Own H b (.cells xs.toArray eb (0, 0)) R] (hz : z.oneCell' = true) (hn : 0 < n) (hl : o + n ≤ xs.length)
    (k : ∀ w', sat E w' (pts b (.cells (xs.take o ++ List.replicate n z ++ xs.drop (o + n)).toArray eb (0, 0)) * R) → K (.tuple #[]) w') : ef P (oBi .clear #[t] ty cs #[.slice (some ⟨b, o, none⟩) n c]) w K := by
  have h2 := h.own b
  have hcz : z.cells = #[z] := by cases z <;> first | rfl | cases hz
  have hzc : (Builtin.zeroCells z.cells n).toList = List.replicate n z := by
    rw [hcz]
    simp [Builtin.zeroCells]
    apply List.ext_getElem
    · simp
    · intro i h1 h2
      simp [Nat.mod_one]
  have hst := run_storeCells_at P b o eb (List.replicate n z) 0 xs.toArray w h2.pts_get (by simp; omega) (by intro v hv; rw [List.eq_of_mem_replicate hv]; exact hz)
  rw [setRow_putObj h2.pts_get] at hst
  refine ef_of (v := .tuple #[]) (w' := w.putObj b (.cells (xs.take o ++ List.replicate n z ++ xs.drop (o + n)).toArray eb (0, 0))) ?_ (k _ (h2.set _))
  obtain ⟨m, rfl⟩ : ∃ m, n = m + 1 := ⟨n - 1, by omega⟩
  simp [oBi, builtin, Builtin.clear_, run_underlying' i.ul, run_zero q, hzc, hst]
end Hold
