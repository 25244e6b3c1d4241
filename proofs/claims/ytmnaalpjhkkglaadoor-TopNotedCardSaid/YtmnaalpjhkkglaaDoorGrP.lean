/-
  Clients and consents as lists of entries: what is kept of them. No program in sight.
-/
import Derived.Test.YtmnaalpjhkkglaaDoorMapsK
set_option linter.all false
namespace Hold.Mk
open Go Hold
section
variable {κ : Type} [DecidableEq κ]
theorem findM_none {l : List (κ × Value)} {k : κ} (h : findM l k = none) : ∀ x ∈ l, x.1 ≠ k := by
  induction l with
  | nil => simp
  | cons y l ih =>
    simp only [findM] at h
    by_cases hk : k = y.1
    · rw [if_pos hk] at h; cases h
    · rw [if_neg hk, Option.map_eq_none_iff] at h
      intro x hx
      rcases List.mem_cons.1 hx with rfl | hx
      · exact fun e => hk e.symm
      · exact ih h x hx
theorem findM_some {l : List (κ × Value)} {k : κ} {y : Nat × Value} (h : findM l k = some y) : (k, y.2) ∈ l := by
  induction l generalizing y with
  | nil => cases h
  | cons z l ih =>
    simp only [findM] at h
    by_cases hk : k = z.1
    · rw [if_pos hk] at h
      cases h
      rw [hk]; exact List.mem_cons_self
    · rw [if_neg hk, Option.map_eq_some_iff] at h
      obtain ⟨y', h1, rfl⟩ := h
      exact List.mem_cons_of_mem _ (ih (y := y') h1)
theorem lookM_mem {l : List (κ × Value)} {k : κ} {v : Value} (h : lookM l k = some v) : (k, v) ∈ l := by
  unfold lookM at h
  rw [Option.map_eq_some_iff] at h
  obtain ⟨y, h1, rfl⟩ := h
  exact findM_some h1
theorem lookM_none {l : List (κ × Value)} {k : κ} (h : lookM l k = none) : findM l k = none := by
  unfold lookM at h
  rwa [Option.map_eq_none_iff] at h
theorem putM_mem {l : List (κ × Value)} {k : κ} {v : Value} {x : κ × Value} (h : x ∈ putM l k v) : x = (k, v) ∨ x ∈ l := by
  induction l with
  | nil => simp [putM] at h; exact .inl h
  | cons y l ih =>
    simp only [putM] at h
    split at h
    · rcases List.mem_cons.1 h with h | h
      · exact .inl h
      · exact .inr (List.mem_cons_of_mem _ h)
    · rcases List.mem_cons.1 h with h | h
      · exact .inr (h ▸ List.mem_cons_self)
      · rcases ih h with h | h
        · exact .inl h
        · exact .inr (List.mem_cons_of_mem _ h)
theorem putM_key {l : List (κ × Value)} {k : κ} {v : Value} {q : κ} (h : (∃ y ∈ l, y.1 = q) ∨ q = k) : ∃ y ∈ putM l k v, y.1 = q := by
  induction l with
  | nil =>
    rcases h with ⟨y, hy, _⟩ | rfl
    · cases hy
    · exact ⟨(q, v), by simp [putM], rfl⟩
  | cons z l ih =>
    simp only [putM]
    split
    · rename_i hk
      rcases h with ⟨y, hy, rfl⟩ | rfl
      · rcases List.mem_cons.1 hy with rfl | hy
        · exact ⟨(k, v), by simp, hk⟩
        · exact ⟨y, List.mem_cons_of_mem _ hy, rfl⟩
      · exact ⟨(q, v), by simp, rfl⟩
    · rename_i hk
      rcases h with ⟨y, hy, rfl⟩ | rfl
      · rcases List.mem_cons.1 hy with rfl | hy
        · exact ⟨y, by simp, rfl⟩
        · obtain ⟨y', h1, h2⟩ := ih (.inl ⟨y, hy, rfl⟩)
          exact ⟨y', List.mem_cons_of_mem _ h1, h2⟩
      · obtain ⟨y', h1, h2⟩ := ih (.inr rfl)
        exact ⟨y', List.mem_cons_of_mem _ h1, h2⟩
theorem putM_length {l : List (κ × Value)} {k : κ} {v : Value} : (putM l k v).length ≤ l.length + 1 := by
  induction l with
  | nil => simp [putM]
  | cons y l ih =>
    simp only [putM]
    split
    · simp
    · simp only [List.length_cons]; omega
theorem putM_keys_new {l : List (κ × Value)} {k : κ} {v : Value} (h : findM l k = none) : (putM l k v).map (·.1) = l.map (·.1) ++ [k] := by
  induction l with
  | nil => rfl
  | cons y l ih =>
    simp only [findM] at h
    by_cases hk : k = y.1
    · rw [if_pos hk] at h; cases h
    · rw [if_neg hk, Option.map_eq_none_iff] at h
      simp only [putM, if_neg hk, List.map_cons, ih h, List.cons_append]
theorem putM_keys_old {l : List (κ × Value)} {k : κ} {v : Value} {y : Nat × Value} (h : findM l k = some y) : (putM l k v).map (·.1) = l.map (·.1) := by
  induction l generalizing y with
  | nil => cases h
  | cons z l ih =>
    simp only [findM] at h
    by_cases hk : k = z.1
    · subst hk; simp [putM]
    · rw [if_neg hk, Option.map_eq_some_iff] at h
      obtain ⟨y', h1, _⟩ := h
      simp only [putM, if_neg hk, List.map_cons, ih h1]
theorem filter_keys {l : List (κ × Value)} (p : κ → Bool) : (l.filter fun x => p x.1).length = ((l.map (·.1)).filter p).length := by
  rw [List.filter_map, List.length_map]; rfl
theorem delM_sub (l : List (κ × Value)) (k : κ) : (delM l k).Sublist l := by
  induction l with
  | nil => exact List.Sublist.refl _
  | cons x l ih =>
    simp only [delM]
    split
    · exact List.sublist_cons_self _ _
    · exact ih.cons₂ _
theorem delM_other {l : List (κ × Value)} {k : κ} {x : κ × Value} (h : x ∈ l) (hk : x.1 ≠ k) : x ∈ delM l k := by
  induction l with
  | nil => cases h
  | cons y l ih =>
    simp only [delM]
    rcases List.mem_cons.1 h with rfl | h
    · rw [if_neg (fun e => hk e.symm)]; exact List.mem_cons_self
    · split
      · exact h
      · exact List.mem_cons_of_mem _ (ih h)
theorem delM_not {l : List (κ × Value)} {k : κ} (hn : (l.map (·.1)).Nodup) {x : κ × Value} (h : x ∈ delM l k) : x.1 ≠ k := by
  induction l with
  | nil => simp [delM] at h
  | cons y l ih =>
    rw [List.map_cons] at hn
    obtain ⟨h1, h2⟩ := List.nodup_cons.1 hn
    simp only [delM] at h
    split at h
    · rename_i hk
      exact fun e => h1 (List.mem_map.2 ⟨x, h, by rw [e, hk]⟩)
    · rename_i hk
      rcases List.mem_cons.1 h with rfl | h
      · exact fun e => hk e.symm
      · exact ih h2 h
end
end Hold.Mk
namespace Go.Proofs.YtmnaalpjhkkglaaDoor
open Go Hold
structure K2 where
  t : List UInt8
  n : List UInt8
  deriving DecidableEq
structure K3 where
  t : List UInt8
  u : List UInt8
  c : List UInt8
  deriving DecidableEq
instance : Mk.KeyEnc K2 := ⟨fun k => .agg #[tv k.t, tv k.n]⟩
instance : Mk.KeyEnc K3 := ⟨fun k => .agg #[tv k.t, tv k.u, tv k.c]⟩
def ccells (k : K2) : List Value := [tv k.t, tv k.n, tv [], .int .u8 15]
def cvv (k : K2) : Value := .agg (ccells k).toArray
def ofU (t u : List UInt8) (k : K3) : Bool := decide (k.t = t) && decide (k.u = u)
structure Inv (cl : List (K2 × Value)) (co : List (K3 × Value)) (m : Nat) : Prop where
  c : ∀ x ∈ cl, x.2 = cvv x.1
  o : ∀ x ∈ co, (∃ s : UInt8, x.2 = bv s ∧ s &&& 15 = s) ∧ ∃ y ∈ cl, y.1 = ⟨x.1.t, x.1.c⟩
  nd : (co.map (·.1)).Nodup
  few : ∀ t u, (co.filter fun x => ofU t u x.1).length ≤ 4
  lc : cl.length ≤ m
  lo : co.length ≤ m
theorem inv_zero : Inv [] [] 0 := ⟨by simp, by simp, by simp, by simp, by simp, by simp⟩
theorem Inv.up {cl : List (K2 × Value)} {co : List (K3 × Value)} {m : Nat} (h : Inv cl co m) : Inv cl co (m + 1) := ⟨h.c, h.o, h.nd, h.few, by have := h.lc; omega, by have := h.lo; omega⟩
theorem inv_reg {cl : List (K2 × Value)} {co : List (K3 × Value)} {m : Nat} (h : Inv cl co m) (k : K2) : Inv (Mk.putM cl k (cvv k)) co (m + 1) := by
  have := h.lc; have := h.lo
  refine ⟨fun x hx => ?_, fun x hx => ?_, h.nd, h.few, ?_, by omega⟩
  · rcases Mk.putM_mem hx with rfl | hx
    · rfl
    · exact h.c x hx
  · obtain ⟨h1, h2⟩ := h.o x hx
    exact ⟨h1, Mk.putM_key (.inl h2)⟩
  · have := Mk.putM_length (l := cl) (k := k) (v := cvv k); omega
theorem inv_allow {cl : List (K2 × Value)} {co : List (K3 × Value)} {m : Nat} (h : Inv cl co m) {k : K3} {s : UInt8} (hs : s &&& 15 = s) (hc : ∃ y ∈ cl, y.1 = ⟨k.t, k.c⟩)
    (hr : Mk.findM co k ≠ none ∨ (co.filter fun x => ofU k.t k.u x.1).length < 4) : Inv cl (Mk.putM co k (bv s)) (m + 1) := by
  have := h.lc; have := h.lo
  refine ⟨h.c, fun x hx => ?_, ?_, fun t u => ?_, by omega, ?_⟩
  · rcases Mk.putM_mem hx with rfl | hx
    · exact ⟨⟨s, rfl, hs⟩, hc⟩
    · exact h.o x hx
  · cases hf : Mk.findM co k with
    | none =>
      rw [Mk.putM_keys_new hf]
      refine List.nodup_append.2 ⟨h.nd, by simp, fun a ha b hb e => ?_⟩
      rw [List.mem_singleton.1 hb] at e
      obtain ⟨x, hx, rfl⟩ := List.mem_map.1 ha
      exact Mk.findM_none hf x hx e
    | some y => rw [Mk.putM_keys_old hf]; exact h.nd
  · have hf4 := h.few t u
    rw [Mk.filter_keys (ofU t u)] at hf4 ⊢
    cases hf : Mk.findM co k with
    | none =>
      rw [Mk.putM_keys_new hf, List.filter_append, List.length_append]
      by_cases hp : ofU t u k = true
      · have e : t = k.t ∧ u = k.u := by
          unfold ofU at hp
          simp at hp
          exact ⟨hp.1.symm, hp.2.symm⟩
        obtain ⟨rfl, rfl⟩ := e
        rcases hr with hr | hr
        · exact absurd hf hr
        · rw [Mk.filter_keys (ofU k.t k.u)] at hr
          have : ([k].filter (ofU k.t k.u)).length ≤ 1 := List.length_filter_le _ _
          omega
      · have hp : ofU t u k = false := by simpa using hp
        simp only [List.filter_cons, hp, List.filter_nil, Bool.false_eq_true, if_false, List.length_nil]
        omega
    | some y => rw [Mk.putM_keys_old hf]; exact hf4
  · have := Mk.putM_length (l := co) (k := k) (v := bv s); omega
theorem inv_drop {cl : List (K2 × Value)} {co co' : List (K3 × Value)} {m : Nat} (h : Inv cl co m) {k : K2} (hs : co'.Sublist co) (hn : ∀ x ∈ co', (⟨x.1.t, x.1.c⟩ : K2) ≠ k) : Inv (Mk.delM cl k) co' m := by
  have h1 := Mk.delM_sub cl k
  refine ⟨fun x hx => h.c x (h1.subset hx), fun x hx => ?_, h.nd.sublist (hs.map _), fun t u => Nat.le_trans ((hs.filter _).length_le) (h.few t u), Nat.le_trans h1.length_le h.lc, Nat.le_trans hs.length_le h.lo⟩
  obtain ⟨h2, y, hy, e⟩ := h.o x (hs.subset hx)
  exact ⟨h2, y, Mk.delM_other hy (by rw [e]; exact hn x hx), e⟩
theorem mem_erase {α : Type} {l : List α} {j : Nat} {y x : α} (hj : l[j]? = some y) (hx : x ∈ l) (hne : x ≠ y) : x ∈ l.eraseIdx j := by
  induction l generalizing j with
  | nil => cases hx
  | cons z l ih =>
    cases j with
    | zero =>
      simp at hj; subst hj
      rcases List.mem_cons.1 hx with rfl | hx
      · exact absurd rfl hne
      · exact hx
    | succ j =>
      simp only [List.getElem?_cons_succ] at hj
      rw [List.eraseIdx_cons_succ]
      rcases List.mem_cons.1 hx with rfl | hx
      · exact List.mem_cons_self
      · exact List.mem_cons_of_mem _ (ih hj hx)
theorem erase_not {l : List (K3 × Value)} (hn : (l.map (·.1)).Nodup) {j : Nat} {y : K3 × Value} (hj : l[j]? = some y) : ∀ x ∈ l.eraseIdx j, x.1 ≠ y.1 := by
  induction l generalizing j with
  | nil => simp at hj
  | cons z l ih =>
    rw [List.map_cons] at hn
    obtain ⟨h1, h2⟩ := List.nodup_cons.1 hn
    cases j with
    | zero =>
      simp at hj; subst hj
      intro x hx e
      exact h1 (List.mem_map.2 ⟨x, hx, e⟩)
    | succ j =>
      simp only [List.getElem?_cons_succ] at hj
      rw [List.eraseIdx_cons_succ]
      intro x hx
      rcases List.mem_cons.1 hx with rfl | hx
      · intro e
        exact h1 (List.mem_map.2 ⟨y, List.mem_of_getElem? hj, e.symm⟩)
      · exact ih h2 hj x hx
end Go.Proofs.YtmnaalpjhkkglaaDoor
