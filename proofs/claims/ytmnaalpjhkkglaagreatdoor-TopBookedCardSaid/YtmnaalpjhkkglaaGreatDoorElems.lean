/-
  Slices of structs, opened.
-/
import Derived.Test.YtmnaalpjhkkglaaGreatDoorStrs
import Derived.Test.YtmnaalpjhkkglaaGreatDoorPar
import Derived.Deep.Slices
set_option linter.all false
namespace Hold
open Go Go.ChangeShapes Go.WideShapes Go.RowKit Go.Deep
variable {P : Program} {W : World} {H : Type} {enc : TypeId × Value → H} {r : Reach} {b0 : Nat} {v : Value} {d : DataW H} {p : List MemPlace}
theorem fm_drop {α : Type} {cells : α → List Value} {k : Nat} (hc : ∀ x, (cells x).length = k) : ∀ (l : List α) (i : Nat), (l.flatMap cells).drop (i * k) = (l.drop i).flatMap cells
  | l, 0 => by simp
  | [], i + 1 => by simp
  | x :: l, i + 1 => by
    rw [List.flatMap_cons, List.drop_append, hc x, Nat.add_mul, Nat.one_mul, Nat.add_sub_cancel, List.drop_eq_nil_of_le (by rw [hc x]; omega), List.nil_append, fm_drop hc l i]
    rfl
theorem fm_length {α : Type} {cells : α → List Value} {k : Nat} (hc : ∀ x, (cells x).length = k) : ∀ (l : List α), (l.flatMap cells).length = l.length * k
  | [] => by simp
  | x :: l => by rw [List.flatMap_cons, List.length_append, hc x, fm_length hc l, List.length_cons, Nat.add_mul, Nat.one_mul, Nat.add_comm]
theorem fm_at {α : Type} {cells : α → List Value} {k : Nat} (hc : ∀ x, (cells x).length = k) {l : List α} {i : Nat} {x : α} (h : l[i]? = some x) : ((l.flatMap cells).drop (i * k)).take k = cells x := by
  rw [fm_drop hc]
  have hlt := (List.getElem?_eq_some_iff.1 h).1
  rw [List.drop_eq_getElem_cons hlt, (List.getElem?_eq_some_iff.1 h).2, List.flatMap_cons, List.take_left' (hc x)]
theorem fm_get {α : Type} {cells : α → List Value} {k : Nat} (hk : 0 < k) (hc : ∀ x, (cells x).length = k) {l : List α} {j : Nat} {u : Value} (h : (l.flatMap cells)[j]? = some u) :
    ∃ x, l[j / k]? = some x ∧ (cells x)[j % k]? = some u := by
  have hj := (List.getElem?_eq_some_iff.1 h).1
  rw [fm_length hc] at hj
  have hlt : j / k < l.length := Nat.div_lt_of_lt_mul (by rw [Nat.mul_comm]; exact hj)
  refine ⟨l[j / k], List.getElem?_eq_getElem hlt, ?_⟩
  have h2 := fm_at hc (l := l) (i := j / k) (List.getElem?_eq_getElem hlt)
  rw [← h2, List.getElem?_take, if_pos (Nat.mod_lt _ hk), List.getElem?_drop]
  rw [show j / k * k + j % k = j by rw [Nat.mul_comm]; exact Nat.div_add_mod j k]
  exact h
theorem open_elems {α : Type} {cells : α → List Value} {k : Nat} {t e : TypeId} (ht : P.underlying t = some (.slice e)) (hce : P.cellsOf e = k) (hk : 0 < k) (hc : ∀ x, (cells x).length = k)
    (hel : ∀ {n : Nat} {cs : List Value} {D : DataW H × List MemPlace}, DataW.trod enc P W 0 (fun _ => true) true n e cs = some D → ∃ x, cs = cells x)
    (hv : Value.okWide P W r b0 t v) (h : DataW.Trod enc P W 0 (fun _ => true) true t v d p) : ∃ l : List α, Rds (old W) v l.length (l.flatMap cells) ∧ l.length ≤ 9223372036854775807 := by
  obtain ⟨a, len, cap, rfl⟩ := okWide_slice ht hv
  obtain ⟨fuel, hf⟩ := h
  rcases open_slice ht hf with ⟨e, _⟩ | ⟨a', len', cap', m, n, D, Pl, e, _, hlc, hcm, hm, _, hall⟩
  · simp [Value.cells] at e
    obtain ⟨rfl, rfl, rfl⟩ := e
    exact ⟨[], rds_old ⟨none, 0, rfl, Nat.le_refl _, .inl rfl⟩, by simp⟩
  · simp [Value.cells] at e
    obtain ⟨rfl, rfl, rfl⟩ := e
    simp only [if_true] at hm
    subst hm
    have key : ∀ q, q ≤ len → ∃ l : List α, l.length = q ∧ ∀ i x, l[i]? = some x → W.cells? 0 (a'.add (i * k)) k = some (cells x) := by
      intro q
      induction q with
      | zero => exact fun _ => ⟨[], rfl, fun i x h => by simp at h⟩
      | succ q ih =>
        intro hq
        obtain ⟨l, hl, hx⟩ := ih (by omega)
        obtain ⟨cs', h1, h2⟩ := hall q (by omega)
        rw [hce] at h1
        obtain ⟨x, rfl⟩ := hel h2
        refine ⟨l ++ [x], by simp [hl], fun i y hi => ?_⟩
        by_cases hiq : i < q
        · rw [List.getElem?_append_left (by omega)] at hi
          exact hx i y hi
        · have hi2 := (List.getElem?_eq_some_iff.1 hi).1
          simp at hi2
          have hiq2 : i = q := by omega
          subst hiq2
          rw [List.getElem?_append_right (by omega), hl] at hi
          simp at hi
          subst hi
          exact h1
    obtain ⟨l, hl, hx⟩ := key len (Nat.le_refl _)
    refine ⟨l, ?_, by rw [hl]; simp only [maxLen] at hcm; omega⟩
    rw [hl]
    refine rds_old ⟨some a', _, rfl, hlc, win_of_cells fun j u hj => ?_⟩
    obtain ⟨x, h1, h2⟩ := fm_get hk hc hj
    obtain ⟨_, _, h3⟩ := World.cells?_some (hx _ x h1)
    have h4 := h3 (j % k) (Nat.mod_lt _ hk)
    rw [h2, Go.Deep.add_add, show j / k * k + j % k = j by rw [Nat.mul_comm]; exact Nat.div_add_mod j k] at h4
    exact h4
end Hold
