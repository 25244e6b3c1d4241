/-
  Maps from numbers to things that know their number, held in rising order: as lists of things.
-/
import Derived.Test.YtbcimkjgpplcpaaGreatDoorSortK
import Derived.Deep.Slices
set_option linter.all false
namespace Hold
open Go
section
variable {α : Type} {key : α → Int} {val : α → Value}
def mpG (key : α → Int) (val : α → Value) (l : List α) : List (Int × Value) := l.map fun x => (key x, val x)
def findG (key : α → Int) (l : List α) (id : Int) : Option α := l.find? fun x => decide (id = key x)
def dropG (key : α → Int) (l : List α) (id : Int) : List α := l.filter fun x => decide (key x ≠ id)
def putG (key : α → Int) (l : List α) (y : α) : List α := l.map fun x => if key x = key y then y else x
abbrev Rise (key : α → Int) (l : List α) : Prop := l.Pairwise fun x y => key x < key y
theorem mpG_keys (l : List α) : (mpG key val l).map (·.1) = l.map key := by simp [mpG]
theorem mpG_length (l : List α) : (mpG key val l).length = l.length := by simp [mpG]
theorem lookM_mpG (id : Int) : ∀ l : List α, lookM (mpG key val l) id = (findG key l id).map val
  | [] => rfl
  | x :: l => by
    have ih := lookM_mpG id l
    unfold lookM findG at ih ⊢
    simp only [mpG, List.map_cons, findM, List.find?_cons] at ih ⊢
    by_cases h : id = key x
    · simp [h]
    · simp only [h, if_false, decide_false, Bool.false_eq_true]
      rw [Option.map_map]
      exact ih
theorem findG_at {l : List α} (hr : Rise key l) {i : Nat} {x : α} (h : l[i]? = some x) : findG key l (key x) = some x := by
  induction l generalizing i with
  | nil => simp at h
  | cons y l ih =>
    obtain ⟨h1, h2⟩ := List.pairwise_cons.1 hr
    unfold findG at ih ⊢
    rw [List.find?_cons]
    cases i with
    | zero => simp at h; subst h; simp
    | succ i =>
      simp only [List.getElem?_cons_succ] at h
      have := h1 x (List.mem_of_getElem? h)
      have hne : ¬ key x = key y := by omega
      simp only [hne, decide_false]
      exact ih h2 h
theorem findG_mem {l : List α} (hr : Rise key l) {x : α} (h : x ∈ l) : findG key l (key x) = some x := by
  obtain ⟨i, hi, e⟩ := List.getElem_of_mem h
  exact findG_at hr (i := i) (by rw [List.getElem?_eq_getElem hi, e])
theorem rise_inj {l : List α} (hr : Rise key l) {x y : α} (hx : x ∈ l) (hy : y ∈ l) (e : key x = key y) : x = y := by
  have h1 := findG_mem hr hx
  rw [e, findG_mem hr hy] at h1
  exact (Option.some.inj h1).symm
theorem findG_some {l : List α} {id : Int} {x : α} (h : findG key l id = some x) : x ∈ l ∧ key x = id := by
  unfold findG at h
  refine ⟨List.mem_of_find?_eq_some h, ?_⟩
  have := List.find?_some h
  simpa using (of_decide_eq_true this).symm
theorem findG_none {l : List α} {id : Int} (h : findG key l id = none) : ∀ x ∈ l, key x ≠ id := by
  intro x hx e
  have := List.find?_eq_none.1 h x hx
  exact this (decide_eq_true e.symm)
theorem dropG_none {l : List α} {id : Int} (h : ∀ y ∈ l, key y ≠ id) : dropG key l id = l := List.filter_eq_self.2 fun y hy => by simpa using h y hy
theorem delM_mpG {id : Int} : ∀ {l : List α}, Rise key l → delM (mpG key val l) id = mpG key val (dropG key l id)
  | [], _ => rfl
  | x :: l, hr => by
    obtain ⟨h1, h2⟩ := List.pairwise_cons.1 hr
    have ih := delM_mpG (id := id) h2
    simp only [mpG, List.map_cons, delM] at ih ⊢
    by_cases h : id = key x
    · rw [if_pos h]
      have : dropG key (x :: l) id = l := by
        unfold dropG
        rw [List.filter_cons, if_neg (by simp [h])]
        exact dropG_none fun y hy => by have := h1 y hy; omega
      rw [this]
    · rw [if_neg h, ih]
      have : dropG key (x :: l) id = x :: dropG key l id := by
        unfold dropG
        rw [List.filter_cons, if_pos (by simp; exact fun e => h e.symm)]
      rw [this]
      rfl
theorem putM_newG {l : List α} {y : α} (h : ∀ x ∈ l, key x < key y) : putM (mpG key val l) (key y) (val y) = mpG key val (l ++ [y]) := by
  induction l with
  | nil => rfl
  | cons x l ih =>
    have hx := h x (by simp)
    have := ih fun z hz => h z (by simp [hz])
    simp only [mpG, List.map_cons, putM, List.cons_append] at this ⊢
    rw [if_neg (by omega), this]
theorem putG_none {l : List α} {y : α} (h : ∀ x ∈ l, key x ≠ key y) : putG key l y = l := by
  unfold putG
  conv => rhs; rw [← List.map_id l]
  exact List.map_congr_left fun x hx => by rw [if_neg (h x hx)]; rfl
theorem putM_oldG {y : α} : ∀ {l : List α}, Rise key l → (∃ x ∈ l, key x = key y) → putM (mpG key val l) (key y) (val y) = mpG key val (putG key l y)
  | [], _, h => by obtain ⟨_, h, _⟩ := h; cases h
  | x :: l, hr, h => by
    obtain ⟨h1, h2⟩ := List.pairwise_cons.1 hr
    simp only [mpG, List.map_cons, putM, putG]
    by_cases hx : key y = key x
    · rw [if_pos hx, if_pos hx.symm]
      have := putG_none (key := key) (l := l) (y := y) fun z hz => by have := h1 z hz; omega
      unfold putG at this
      rw [this]
    · rw [if_neg hx, if_neg (fun e => hx e.symm)]
      have := putM_oldG (l := l) (y := y) h2 (by
        obtain ⟨z, hz, e⟩ := h
        rcases List.mem_cons.1 hz with rfl | hz
        · exact absurd e.symm hx
        · exact ⟨z, hz, e⟩)
      unfold mpG putG at this
      rw [this]
theorem rise_put {l : List α} {y : α} (hr : Rise key l) : Rise key (putG key l y) := by
  unfold putG Rise
  rw [List.pairwise_map]
  refine hr.imp fun {a b} hlt => ?_
  have h1 : key (if key a = key y then y else a) = key a := by split <;> simp_all
  have h2 : key (if key b = key y then y else b) = key b := by split <;> simp_all
  rw [h1, h2]
  exact hlt
theorem rise_app {l : List α} {y : α} (hr : Rise key l) (h : ∀ x ∈ l, key x < key y) : Rise key (l ++ [y]) :=
  List.pairwise_append.2 ⟨hr, List.pairwise_singleton _ _, fun x hx z hz => by rw [List.mem_singleton.1 hz]; exact h x hx⟩
end
end Hold

/-
  Slices of structs, opened.
-/
set_option linter.all false
namespace Hold
open Go Go.ChangeShapes Go.WideShapes Go.RowKit Go.Deep
variable {P : Program} {W : World} {H : Type} {enc : TypeId × Value → H} {r : Reach} {b0 : Nat} {v : Value} {d : DataW H} {p : List MemPlace}
theorem fm_drop {α : Type} {cells : α → List Value} {k : Nat} (hc : ∀ x, (cells x).length = k) : ∀ (l : List α) (i : Nat), (l.flatMap cells).drop (i * k) = (l.drop i).flatMap cells
  | l, 0 => by simp
  | [], i + 1 => by simp
  | x :: l, i + 1 => by
    rw [List.flatMap_cons, List.drop_append, hc x, Nat.add_mul, Nat.one_mul, Nat.add_sub_cancel, List.drop_eq_nil_of_le (by rw [hc x]; omega), List.nil_append, fm_drop hc l i]
    rfl
theorem fm_length {α : Type} {cells : α → List Value} {k : Nat} (hc : ∀ x, (cells x).length = k) : ∀ (l : List α), (l.flatMap cells).length = l.length * k
  | [] => by simp
  | x :: l => by rw [List.flatMap_cons, List.length_append, hc x, fm_length hc l, List.length_cons, Nat.add_mul, Nat.one_mul, Nat.add_comm]
theorem fm_at {α : Type} {cells : α → List Value} {k : Nat} (hc : ∀ x, (cells x).length = k) {l : List α} {i : Nat} {x : α} (h : l[i]? = some x) : ((l.flatMap cells).drop (i * k)).take k = cells x := by
  rw [fm_drop hc]
  have hlt := (List.getElem?_eq_some_iff.1 h).1
  rw [List.drop_eq_getElem_cons hlt, (List.getElem?_eq_some_iff.1 h).2, List.flatMap_cons, List.take_left' (hc x)]
theorem fm_get {α : Type} {cells : α → List Value} {k : Nat} (hk : 0 < k) (hc : ∀ x, (cells x).length = k) {l : List α} {j : Nat} {u : Value} (h : (l.flatMap cells)[j]? = some u) :
    ∃ x, l[j / k]? = some x ∧ (cells x)[j % k]? = some u := by
  have hj := (List.getElem?_eq_some_iff.1 h).1
  rw [fm_length hc] at hj
  have hlt : j / k < l.length := Nat.div_lt_of_lt_mul (by rw [Nat.mul_comm]; exact hj)
  refine ⟨l[j / k], List.getElem?_eq_getElem hlt, ?_⟩
  have h2 := fm_at hc (l := l) (i := j / k) (List.getElem?_eq_getElem hlt)
  rw [← h2, List.getElem?_take, if_pos (Nat.mod_lt _ hk), List.getElem?_drop]
  rw [show j / k * k + j % k = j by rw [Nat.mul_comm]; exact Nat.div_add_mod j k]
  exact h
theorem open_elems {α : Type} {cells : α → List Value} {k : Nat} {t e : TypeId} (ht : P.underlying t = some (.slice e)) (hce : P.cellsOf e = k) (hk : 0 < k) (hc : ∀ x, (cells x).length = k)
    (hel : ∀ {n : Nat} {cs : List Value} {D : DataW H × List MemPlace}, DataW.trod enc P W 0 (fun _ => true) true n e cs = some D → ∃ x, cs = cells x)
    (hv : Value.okWide P W r b0 t v) (h : DataW.Trod enc P W 0 (fun _ => true) true t v d p) : ∃ l : List α, Rds (old W) v l.length (l.flatMap cells) ∧ l.length ≤ 9223372036854775807 := by
  obtain ⟨a, len, cap, rfl⟩ := okWide_slice ht hv
  obtain ⟨fuel, hf⟩ := h
  rcases open_slice ht hf with ⟨e, _⟩ | ⟨a', len', cap', m, n, D, Pl, e, _, hlc, hcm, hm, _, hall⟩
  · simp [Value.cells] at e
    obtain ⟨rfl, rfl, rfl⟩ := e
    exact ⟨[], rds_old ⟨none, 0, rfl, Nat.le_refl _, .inl rfl⟩, by simp⟩
  · simp [Value.cells] at e
    obtain ⟨rfl, rfl, rfl⟩ := e
    simp only [if_true] at hm
    subst hm
    have key : ∀ q, q ≤ len → ∃ l : List α, l.length = q ∧ ∀ i x, l[i]? = some x → W.cells? 0 (a'.add (i * k)) k = some (cells x) := by
      intro q
      induction q with
      | zero => exact fun _ => ⟨[], rfl, fun i x h => by simp at h⟩
      | succ q ih =>
        intro hq
        obtain ⟨l, hl, hx⟩ := ih (by omega)
        obtain ⟨cs', h1, h2⟩ := hall q (by omega)
        rw [hce] at h1
        obtain ⟨x, rfl⟩ := hel h2
        refine ⟨l ++ [x], by simp [hl], fun i y hi => ?_⟩
        by_cases hiq : i < q
        · rw [List.getElem?_append_left (by omega)] at hi
          exact hx i y hi
        · have hi2 := (List.getElem?_eq_some_iff.1 hi).1
          simp at hi2
          have hiq2 : i = q := by omega
          subst hiq2
          rw [List.getElem?_append_right (by omega), hl] at hi
          simp at hi
          subst hi
          exact h1
    obtain ⟨l, hl, hx⟩ := key len (Nat.le_refl _)
    refine ⟨l, ?_, by rw [hl]; simp only [maxLen] at hcm; omega⟩
    rw [hl]
    refine rds_old ⟨some a', _, rfl, hlc, win_of_cells fun j u hj => ?_⟩
    obtain ⟨x, h1, h2⟩ := fm_get hk hc hj
    obtain ⟨_, _, h3⟩ := World.cells?_some (hx _ x h1)
    have h4 := h3 (j % k) (Nat.mod_lt _ hk)
    rw [h2, Go.Deep.add_add, show j / k * k + j % k = j by rw [Nat.mul_comm]; exact Nat.div_add_mod j k] at h4
    exact h4
end Hold
