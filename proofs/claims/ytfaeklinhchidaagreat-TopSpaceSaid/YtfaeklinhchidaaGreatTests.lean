/-
  Slices of structs, opened.
-/
import Derived.Test.YtfaeklinhchidaaGreatStrs
import Derived.Test.YtfaeklinhchidaaGreatPar
import Derived.Deep.Slices
set_option linter.all false
namespace Hold
open Go Go.ChangeShapes Go.WideShapes Go.RowKit Go.Deep
variable {P : Program} {W : World} {H : Type} {enc : TypeId × Value → H} {r : Reach} {b0 : Nat} {v : Value} {d : DataW H} {p : List MemPlace}
theorem fm_drop {α : Type} {cells : α → List Value} {k : Nat} (hc : ∀ x, (cells x).length = k) : ∀ (l : List α) (i : Nat), (l.flatMap cells).drop (i * k) = (l.drop i).flatMap cells
  | l, 0 => by simp
  | [], i + 1 => by simp
  | x :: l, i + 1 => by
    rw [List.flatMap_cons, List.drop_append, hc x, Nat.add_mul, Nat.one_mul, Nat.add_sub_cancel, List.drop_eq_nil_of_le (by rw [hc x]; omega), List.nil_append, fm_drop hc l i]
    rfl
theorem fm_length {α : Type} {cells : α → List Value} {k : Nat} (hc : ∀ x, (cells x).length = k) : ∀ (l : List α), (l.flatMap cells).length = l.length * k
  | [] => by simp
  | x :: l => by rw [List.flatMap_cons, List.length_append, hc x, fm_length hc l, List.length_cons, Nat.add_mul, Nat.one_mul, Nat.add_comm]
theorem fm_at {α : Type} {cells : α → List Value} {k : Nat} (hc : ∀ x, (cells x).length = k) {l : List α} {i : Nat} {x : α} (h : l[i]? = some x) : ((l.flatMap cells).drop (i * k)).take k = cells x := by
  rw [fm_drop hc]
  have hlt := (List.getElem?_eq_some_iff.1 h).1
  rw [List.drop_eq_getElem_cons hlt, (List.getElem?_eq_some_iff.1 h).2, List.flatMap_cons, List.take_left' (hc x)]
end Hold

/-
  Two tests, one behind the other; a read whose guard is shut.
-/
set_option linter.all false
namespace Hold
open Go
section
variable {P : Program} {E : World0} {w : World} {K : Value → World → Prop}
end
end Hold
