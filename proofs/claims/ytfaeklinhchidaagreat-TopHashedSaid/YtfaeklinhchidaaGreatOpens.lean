/-
  Arguments, opened: numbers of other kinds, truths, slices of them.
-/
import Derived.Test.YtfaeklinhchidaaGreatElems
set_option linter.all false
namespace Hold
open Go Go.ChangeShapes Go.WideShapes Go.RowKit Go.Deep
variable {P : Program} {W : World} {H : Type} {enc : TypeId × Value → H} {r : Reach} {b0 : Nat} {v : Value} {d : DataW H} {p : List MemPlace}
theorem fm_one {α : Type} (f : α → Value) : ∀ l : List α, (l.flatMap fun x => [f x]) = l.map f
  | [] => rfl
  | x :: l => by rw [List.flatMap_cons, fm_one f l]; rfl
/-- A slice within a struct. -/
theorem elems_of {α : Type} {cells : α → List Value} {k n : Nat} {t e : TypeId} {cs : List Value} {D : DataW H × List MemPlace} (ht : P.underlying t = some (.slice e)) (hce : P.cellsOf e = k) (hk : 0 < k) (hc : ∀ x, (cells x).length = k)
    (hel : ∀ {n : Nat} {cs : List Value} {D : DataW H × List MemPlace}, DataW.trod enc P W 0 (fun _ => true) true n e cs = some D → ∃ x, cs = cells x)
    (hf : DataW.trod enc P W 0 (fun _ => true) true n t cs = some D) : ∃ (v : Value) (l : List α), cs = [v] ∧ Rds (old W) v l.length (l.flatMap cells) ∧ l.length ≤ 9223372036854775807 := by
  rcases open_slice ht hf with ⟨e, _⟩ | ⟨a, len, cap, m, n, D, Pl, e, _, hlc, hcm, hm, _, hall⟩
  · exact ⟨_, [], e, rds_old ⟨none, 0, rfl, Nat.le_refl _, .inl rfl⟩, by simp⟩
  · simp only [if_true] at hm
    subst hm
    have key : ∀ q, q ≤ len → ∃ l : List α, l.length = q ∧ ∀ i x, l[i]? = some x → W.cells? 0 (a.add (i * k)) k = some (cells x) := by
      intro q
      induction q with
      | zero => exact fun _ => ⟨[], rfl, fun i x h => by simp at h⟩
      | succ q ih =>
        intro hq
        obtain ⟨l, hl, hx⟩ := ih (by omega)
        obtain ⟨cs', h1, h2⟩ := hall q (by omega)
        rw [hce] at h1
        obtain ⟨x, rfl⟩ := hel h2
        refine ⟨l ++ [x], by simp [hl], fun i y hi => ?_⟩
        by_cases hiq : i < q
        · rw [List.getElem?_append_left (by omega)] at hi
          exact hx i y hi
        · have hi2 := (List.getElem?_eq_some_iff.1 hi).1
          simp at hi2
          have hiq2 : i = q := by omega
          subst hiq2
          rw [List.getElem?_append_right (by omega), hl] at hi
          simp at hi
          subst hi
          exact h1
    obtain ⟨l, hl, hx⟩ := key len (Nat.le_refl _)
    refine ⟨_, l, e, ?_, by rw [hl]; simp only [maxLen] at hcm; omega⟩
    rw [hl]
    refine rds_old ⟨some a, _, rfl, hlc, win_of_cells fun j u hj => ?_⟩
    obtain ⟨x, h1, h2⟩ := fm_get hk hc hj
    obtain ⟨_, _, h3⟩ := World.cells?_some (hx _ x h1)
    have h4 := h3 (j % k) (Nat.mod_lt _ hk)
    rw [h2, Go.Deep.add_add, show j / k * k + j % k = j by rw [Nat.mul_comm]; exact Nat.div_add_mod j k] at h4
    exact h4
end Hold
