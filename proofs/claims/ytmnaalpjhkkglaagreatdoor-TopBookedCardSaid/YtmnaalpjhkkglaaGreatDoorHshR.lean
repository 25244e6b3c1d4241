/-
  Clients and consents as lists of entries: what is kept of them. No program in sight.
-/
import Derived.Test.YtmnaalpjhkkglaaGreatDoorMapsK
import Derived.Test.YtmnaalpjhkkglaaGreatDoorSealP
import Derived.Test.YtmnaalpjhkkglaaGreatDoorNames
import Derived.Laws.Runes
import Derived.Test.YtmnaalpjhkkglaaGreatDoorPB
import Derived.Test.YtmnaalpjhkkglaaGreatDoorPar
import Derived.Test.YtmnaalpjhkkglaaGreatDoorCodC
set_option linter.all false
namespace Hold.Mk
open Go Hold
section
variable {κ : Type} [DecidableEq κ]
theorem findM_none {l : List (κ × Value)} {k : κ} (h : findM l k = none) : ∀ x ∈ l, x.1 ≠ k := by
  induction l with
  | nil => simp
  | cons y l ih =>
    simp only [findM] at h
    by_cases hk : k = y.1
    · rw [if_pos hk] at h; cases h
    · rw [if_neg hk, Option.map_eq_none_iff] at h
      intro x hx
      rcases List.mem_cons.1 hx with rfl | hx
      · exact fun e => hk e.symm
      · exact ih h x hx
theorem findM_some {l : List (κ × Value)} {k : κ} {y : Nat × Value} (h : findM l k = some y) : (k, y.2) ∈ l := by
  induction l generalizing y with
  | nil => cases h
  | cons z l ih =>
    simp only [findM] at h
    by_cases hk : k = z.1
    · rw [if_pos hk] at h
      cases h
      rw [hk]; exact List.mem_cons_self
    · rw [if_neg hk, Option.map_eq_some_iff] at h
      obtain ⟨y', h1, rfl⟩ := h
      exact List.mem_cons_of_mem _ (ih (y := y') h1)
theorem lookM_mem {l : List (κ × Value)} {k : κ} {v : Value} (h : lookM l k = some v) : (k, v) ∈ l := by
  unfold lookM at h
  rw [Option.map_eq_some_iff] at h
  obtain ⟨y, h1, rfl⟩ := h
  exact findM_some h1
theorem lookM_none {l : List (κ × Value)} {k : κ} (h : lookM l k = none) : findM l k = none := by
  unfold lookM at h
  rwa [Option.map_eq_none_iff] at h
theorem putM_mem {l : List (κ × Value)} {k : κ} {v : Value} {x : κ × Value} (h : x ∈ putM l k v) : x = (k, v) ∨ x ∈ l := by
  induction l with
  | nil => simp [putM] at h; exact .inl h
  | cons y l ih =>
    simp only [putM] at h
    split at h
    · rcases List.mem_cons.1 h with h | h
      · exact .inl h
      · exact .inr (List.mem_cons_of_mem _ h)
    · rcases List.mem_cons.1 h with h | h
      · exact .inr (h ▸ List.mem_cons_self)
      · rcases ih h with h | h
        · exact .inl h
        · exact .inr (List.mem_cons_of_mem _ h)
theorem putM_key {l : List (κ × Value)} {k : κ} {v : Value} {q : κ} (h : (∃ y ∈ l, y.1 = q) ∨ q = k) : ∃ y ∈ putM l k v, y.1 = q := by
  induction l with
  | nil =>
    rcases h with ⟨y, hy, _⟩ | rfl
    · cases hy
    · exact ⟨(q, v), by simp [putM], rfl⟩
  | cons z l ih =>
    simp only [putM]
    split
    · rename_i hk
      rcases h with ⟨y, hy, rfl⟩ | rfl
      · rcases List.mem_cons.1 hy with rfl | hy
        · exact ⟨(k, v), by simp, hk⟩
        · exact ⟨y, List.mem_cons_of_mem _ hy, rfl⟩
      · exact ⟨(q, v), by simp, rfl⟩
    · rename_i hk
      rcases h with ⟨y, hy, rfl⟩ | rfl
      · rcases List.mem_cons.1 hy with rfl | hy
        · exact ⟨y, by simp, rfl⟩
        · obtain ⟨y', h1, h2⟩ := ih (.inl ⟨y, hy, rfl⟩)
          exact ⟨y', List.mem_cons_of_mem _ h1, h2⟩
      · obtain ⟨y', h1, h2⟩ := ih (.inr rfl)
        exact ⟨y', List.mem_cons_of_mem _ h1, h2⟩
theorem putM_length {l : List (κ × Value)} {k : κ} {v : Value} : (putM l k v).length ≤ l.length + 1 := by
  induction l with
  | nil => simp [putM]
  | cons y l ih =>
    simp only [putM]
    split
    · simp
    · simp only [List.length_cons]; omega
theorem putM_keys_new {l : List (κ × Value)} {k : κ} {v : Value} (h : findM l k = none) : (putM l k v).map (·.1) = l.map (·.1) ++ [k] := by
  induction l with
  | nil => rfl
  | cons y l ih =>
    simp only [findM] at h
    by_cases hk : k = y.1
    · rw [if_pos hk] at h; cases h
    · rw [if_neg hk, Option.map_eq_none_iff] at h
      simp only [putM, if_neg hk, List.map_cons, ih h, List.cons_append]
theorem putM_keys_old {l : List (κ × Value)} {k : κ} {v : Value} {y : Nat × Value} (h : findM l k = some y) : (putM l k v).map (·.1) = l.map (·.1) := by
  induction l generalizing y with
  | nil => cases h
  | cons z l ih =>
    simp only [findM] at h
    by_cases hk : k = z.1
    · subst hk; simp [putM]
    · rw [if_neg hk, Option.map_eq_some_iff] at h
      obtain ⟨y', h1, _⟩ := h
      simp only [putM, if_neg hk, List.map_cons, ih h1]
theorem filter_keys {l : List (κ × Value)} (p : κ → Bool) : (l.filter fun x => p x.1).length = ((l.map (·.1)).filter p).length := by
  rw [List.filter_map, List.length_map]; rfl
theorem delM_sub (l : List (κ × Value)) (k : κ) : (delM l k).Sublist l := by
  induction l with
  | nil => exact List.Sublist.refl _
  | cons x l ih =>
    simp only [delM]
    split
    · exact List.sublist_cons_self _ _
    · exact ih.cons₂ _
theorem delM_other {l : List (κ × Value)} {k : κ} {x : κ × Value} (h : x ∈ l) (hk : x.1 ≠ k) : x ∈ delM l k := by
  induction l with
  | nil => cases h
  | cons y l ih =>
    simp only [delM]
    rcases List.mem_cons.1 h with rfl | h
    · rw [if_neg (fun e => hk e.symm)]; exact List.mem_cons_self
    · split
      · exact h
      · exact List.mem_cons_of_mem _ (ih h)
theorem delM_not {l : List (κ × Value)} {k : κ} (hn : (l.map (·.1)).Nodup) {x : κ × Value} (h : x ∈ delM l k) : x.1 ≠ k := by
  induction l with
  | nil => simp [delM] at h
  | cons y l ih =>
    rw [List.map_cons] at hn
    obtain ⟨h1, h2⟩ := List.nodup_cons.1 hn
    simp only [delM] at h
    split at h
    · rename_i hk
      exact fun e => h1 (List.mem_map.2 ⟨x, h, by rw [e, hk]⟩)
    · rename_i hk
      rcases List.mem_cons.1 h with rfl | h
      · exact fun e => hk e.symm
      · exact ih h2 h
end
end Hold.Mk
namespace Go.Proofs.YtmnaalpjhkkglaaGreatDoor
open Go Hold
structure K2 where
  t : List UInt8
  n : List UInt8
  deriving DecidableEq
structure K3 where
  t : List UInt8
  u : List UInt8
  c : List UInt8
  deriving DecidableEq
instance : Mk.KeyEnc K2 := ⟨fun k => .agg #[tv k.t, tv k.n]⟩
instance : Mk.KeyEnc K3 := ⟨fun k => .agg #[tv k.t, tv k.u, tv k.c]⟩
def ccells (k : K2) : List Value := [tv k.t, tv k.n, tv [], .int .u8 15]
def cvv (k : K2) : Value := .agg (ccells k).toArray
def ofU (t u : List UInt8) (k : K3) : Bool := decide (k.t = t) && decide (k.u = u)
structure Inv (cl : List (K2 × Value)) (co : List (K3 × Value)) (m : Nat) : Prop where
  c : ∀ x ∈ cl, x.2 = cvv x.1
  o : ∀ x ∈ co, (∃ s : UInt8, x.2 = bv s ∧ s &&& 15 = s) ∧ ∃ y ∈ cl, y.1 = ⟨x.1.t, x.1.c⟩
  nd : (co.map (·.1)).Nodup
  few : ∀ t u, (co.filter fun x => ofU t u x.1).length ≤ 4
  lc : cl.length ≤ m
  lo : co.length ≤ m
theorem inv_zero : Inv [] [] 0 := ⟨by simp, by simp, by simp, by simp, by simp, by simp⟩
theorem Inv.up {cl : List (K2 × Value)} {co : List (K3 × Value)} {m : Nat} (h : Inv cl co m) : Inv cl co (m + 1) := ⟨h.c, h.o, h.nd, h.few, by have := h.lc; omega, by have := h.lo; omega⟩
theorem inv_reg {cl : List (K2 × Value)} {co : List (K3 × Value)} {m : Nat} (h : Inv cl co m) (k : K2) : Inv (Mk.putM cl k (cvv k)) co (m + 1) := by
  have := h.lc; have := h.lo
  refine ⟨fun x hx => ?_, fun x hx => ?_, h.nd, h.few, ?_, by omega⟩
  · rcases Mk.putM_mem hx with rfl | hx
    · rfl
    · exact h.c x hx
  · obtain ⟨h1, h2⟩ := h.o x hx
    exact ⟨h1, Mk.putM_key (.inl h2)⟩
  · have := Mk.putM_length (l := cl) (k := k) (v := cvv k); omega
theorem inv_allow {cl : List (K2 × Value)} {co : List (K3 × Value)} {m : Nat} (h : Inv cl co m) {k : K3} {s : UInt8} (hs : s &&& 15 = s) (hc : ∃ y ∈ cl, y.1 = ⟨k.t, k.c⟩)
    (hr : Mk.findM co k ≠ none ∨ (co.filter fun x => ofU k.t k.u x.1).length < 4) : Inv cl (Mk.putM co k (bv s)) (m + 1) := by
  have := h.lc; have := h.lo
  refine ⟨h.c, fun x hx => ?_, ?_, fun t u => ?_, by omega, ?_⟩
  · rcases Mk.putM_mem hx with rfl | hx
    · exact ⟨⟨s, rfl, hs⟩, hc⟩
    · exact h.o x hx
  · cases hf : Mk.findM co k with
    | none =>
      rw [Mk.putM_keys_new hf]
      refine List.nodup_append.2 ⟨h.nd, by simp, fun a ha b hb e => ?_⟩
      rw [List.mem_singleton.1 hb] at e
      obtain ⟨x, hx, rfl⟩ := List.mem_map.1 ha
      exact Mk.findM_none hf x hx e
    | some y => rw [Mk.putM_keys_old hf]; exact h.nd
  · have hf4 := h.few t u
    rw [Mk.filter_keys (ofU t u)] at hf4 ⊢
    cases hf : Mk.findM co k with
    | none =>
      rw [Mk.putM_keys_new hf, List.filter_append, List.length_append]
      by_cases hp : ofU t u k = true
      · have e : t = k.t ∧ u = k.u := by
          unfold ofU at hp
          simp at hp
          exact ⟨hp.1.symm, hp.2.symm⟩
        obtain ⟨rfl, rfl⟩ := e
        rcases hr with hr | hr
        · exact absurd hf hr
        · rw [Mk.filter_keys (ofU k.t k.u)] at hr
          have : ([k].filter (ofU k.t k.u)).length ≤ 1 := List.length_filter_le _ _
          omega
      · have hp : ofU t u k = false := by simpa using hp
        simp only [List.filter_cons, hp, List.filter_nil, Bool.false_eq_true, if_false, List.length_nil]
        omega
    | some y => rw [Mk.putM_keys_old hf]; exact hf4
  · have := Mk.putM_length (l := co) (k := k) (v := bv s); omega
theorem inv_drop {cl : List (K2 × Value)} {co co' : List (K3 × Value)} {m : Nat} (h : Inv cl co m) {k : K2} (hs : co'.Sublist co) (hn : ∀ x ∈ co', (⟨x.1.t, x.1.c⟩ : K2) ≠ k) : Inv (Mk.delM cl k) co' m := by
  have h1 := Mk.delM_sub cl k
  refine ⟨fun x hx => h.c x (h1.subset hx), fun x hx => ?_, h.nd.sublist (hs.map _), fun t u => Nat.le_trans ((hs.filter _).length_le) (h.few t u), Nat.le_trans h1.length_le h.lc, Nat.le_trans hs.length_le h.lo⟩
  obtain ⟨h2, y, hy, e⟩ := h.o x (hs.subset hx)
  exact ⟨h2, y, Mk.delM_other hy (by rw [e]; exact hn x hx), e⟩
theorem mem_erase {α : Type} {l : List α} {j : Nat} {y x : α} (hj : l[j]? = some y) (hx : x ∈ l) (hne : x ≠ y) : x ∈ l.eraseIdx j := by
  induction l generalizing j with
  | nil => cases hx
  | cons z l ih =>
    cases j with
    | zero =>
      simp at hj; subst hj
      rcases List.mem_cons.1 hx with rfl | hx
      · exact absurd rfl hne
      · exact hx
    | succ j =>
      simp only [List.getElem?_cons_succ] at hj
      rw [List.eraseIdx_cons_succ]
      rcases List.mem_cons.1 hx with rfl | hx
      · exact List.mem_cons_self
      · exact List.mem_cons_of_mem _ (ih hj hx)
theorem erase_not {l : List (K3 × Value)} (hn : (l.map (·.1)).Nodup) {j : Nat} {y : K3 × Value} (hj : l[j]? = some y) : ∀ x ∈ l.eraseIdx j, x.1 ≠ y.1 := by
  induction l generalizing j with
  | nil => simp at hj
  | cons z l ih =>
    rw [List.map_cons] at hn
    obtain ⟨h1, h2⟩ := List.nodup_cons.1 hn
    cases j with
    | zero =>
      simp at hj; subst hj
      intro x hx e
      exact h1 (List.mem_map.2 ⟨x, hx, e⟩)
    | succ j =>
      simp only [List.getElem?_cons_succ] at hj
      rw [List.eraseIdx_cons_succ]
      intro x hx
      rcases List.mem_cons.1 hx with rfl | hx
      · intro e
        exact h1 (List.mem_map.2 ⟨y, List.mem_of_getElem? hj, e.symm⟩)
      · exact ih h2 hj x hx
end Go.Proofs.YtmnaalpjhkkglaaGreatDoor

/-
  Links of a chain, the reference's.
-/
set_option linter.all false
set_option maxRecDepth 10000
namespace Go.Proofs.YtmnaalpjhkkglaaGreatDoor
open Go Hold
variable {E : World0} {w : World} {H R : HP} {K : Value → World → Prop}
end Go.Proofs.YtmnaalpjhkkglaaGreatDoor

/-
  Rows of columns: the code's and the reference's; columns of rows; what they say of each other.
-/
set_option linter.all false
set_option maxRecDepth 10000
namespace Go.Proofs.YtmnaalpjhkkglaaGreatDoor
open Go Hold
variable {E : World0} {w : World} {H R : HP} {K : Value → World → Prop}
def col (c : List UInt8) : List UInt8 := UInt8.ofNat c.length :: c
def body (cs : List (List UInt8)) : List UInt8 := cs.flatMap col
def rowOut (cs : List (List UInt8)) : List UInt8 := UInt8.ofNat cs.length :: body cs
def row (cs : List (List UInt8)) : List UInt8 × Int :=
  if 8 < cs.length then ([], 2) else if cs.all (fun p => decide (p.length ≤ 70)) = true then (if 72 < (rowOut cs).length then ([], 6) else (rowOut cs, 0)) else ([], 6)
theorem body_append (a b : List (List UInt8)) : body (a ++ b) = body a ++ body b := by simp [body]
theorem body_take {ps : List (List UInt8)} {i : Nat} (h : i < ps.length) : body (ps.take (i + 1)) = body (ps.take i) ++ col (ps.getD i []) := by
  rw [List.take_succ_eq_append_getElem h, body_append]
  simp [body, List.getD_eq_getElem?_getD, h]
theorem body_short {ps : List (List UInt8)} : ∀ i, i ≤ ps.length → (∀ j, j < i → (ps.getD j []).length ≤ 70) → (body (ps.take i)).length ≤ 71 * i
  | 0, _, _ => by simp [body]
  | i + 1, h, hs => by
    have ih := body_short i (by omega) fun j hj => hs j (by omega)
    rw [body_take (by omega)]
    have h2 := hs i (by omega)
    simp only [List.length_append, col, List.length_cons]
    omega
theorem row_long {ps : List (List UInt8)} (h : ¬ 8 < ps.length) {i : Nat} (hi : i < ps.length) (hl : 70 < (ps.getD i []).length) : row ps = ([], 6) := by
  unfold row
  rw [if_neg h, if_neg]
  intro ha
  have := List.all_eq_true.1 ha (ps.getD i []) (by rw [List.getD_eq_getElem?_getD, List.getElem?_eq_getElem hi]; exact List.getElem_mem hi)
  have := of_decide_eq_true this
  omega
theorem all_short70 {ps : List (List UInt8)} (h : ∀ j, j < ps.length → (ps.getD j []).length ≤ 70) : ps.all (fun p => decide (p.length ≤ 70)) = true := by
  refine List.all_eq_true.2 fun p hp => ?_
  obtain ⟨i, hi, rfl⟩ := List.getElem_of_mem hp
  have := h i hi
  rw [List.getD_eq_getElem?_getD, List.getElem?_eq_getElem hi] at this
  simpa using this
theorem row_done {ps : List (List UInt8)} (h : ¬ 8 < ps.length) (hs : ∀ j, j < ps.length → (ps.getD j []).length ≤ 70) : row ps = if 72 < (rowOut ps).length then ([], 6) else (rowOut ps, 0) := by
  unfold row
  rw [if_neg h, if_pos (all_short70 hs)]
theorem bv_len {n : Nat} (h : n < 256) : Value.int .u8 (IntKind.u8.wrap (n : Int)) = bv (UInt8.ofNat n) := by
  unfold bv; rw [IntKind.wrap_u8]; congr 1
theorem Row_spec (h : sat E w H) {v : Value} {ps : List (List UInt8)} (hp : Rds H v ps.length (ps.map tv)) (hpl : ps.length ≤ 9223372036854775000) (k : back K E H (row ps)) : Calls prog 50 #[v] w (Ret K) := by
  obtain ⟨a, c, rfl, hc, hp, hpn⟩ := hp.shape h
  refine c50 ?_
  unfold B50
  rw [o_len, o_gtr]
  by_cases h2 : 8 < ps.length
  · have f2 : (8 : Int) < ps.length := by omega
    simp only [f2, ↓o_nil, ↓o_field, ↓o_add, ↓o_sub, ↓o_mul, ↓o_lss, ↓o_leq, ↓o_gtr, ↓o_geq, ↓o_not, ↓o_pick, ↓o_eqInt, ↓o_neInt, ↓o_eqBool, ↓o_neBool, ↓o_eqPtr, ↓o_nePtr, ↓o_eqPtr', ↓o_eqSl, ↓o_neSl, ↓o_eqStr, ↓o_neStr, ↓o_len, ↓o_lenS, ↓o_min, ↓o_max, ↓o_extract, ↓o_convInt, ↓cd_true, ↓cd_false, ↓gate_tt, ↓gate_ff, ↓gate_tf, ↓gate_ft, ↓gate_undef, ↓o_bind, ↓stay_v, ↓pop_cons, ↓fin_nil, Option.isNone_none, Option.isNone_some, Bool.not_true, Bool.not_false, Nat.zero_add, decide_true, decide_false, if_true, if_false, Bool.false_eq_true, ↓reduceIte]
    have e : row ps = ([], 2) := by unfold row; rw [if_pos h2]
    rw [e] at k
    exact back_nil h k
  have f2 : ¬ (8 : Int) < ps.length := by omega
  simp only [f2, ↓o_nil, ↓o_field, ↓o_add, ↓o_sub, ↓o_mul, ↓o_lss, ↓o_leq, ↓o_gtr, ↓o_geq, ↓o_not, ↓o_pick, ↓o_eqInt, ↓o_neInt, ↓o_eqBool, ↓o_neBool, ↓o_eqPtr, ↓o_nePtr, ↓o_eqPtr', ↓o_eqSl, ↓o_neSl, ↓o_eqStr, ↓o_neStr, ↓o_len, ↓o_lenS, ↓o_min, ↓o_max, ↓o_extract, ↓o_convInt, ↓cd_true, ↓cd_false, ↓gate_tt, ↓gate_ff, ↓gate_tf, ↓gate_ft, ↓gate_undef, ↓o_bind, ↓stay_v, ↓pop_cons, ↓fin_nil, Option.isNone_none, Option.isNone_some, Bool.not_true, Bool.not_false, Nat.zero_add, decide_true, decide_false, if_true, if_false, Bool.false_eq_true, ↓reduceIte, bv_len (show ps.length < 256 by omega)]
  refine buildSlice_sl (e := 5) (cs := #[bv (UInt8.ofNat ps.length)]) h (fun w => by kernel_rfl) fun b0 w h => ?_
  refine lp_nat (fun q σ w => ∃ (i : Nat) (v : Value), σ = [v, .int .i64 (i : Int)] ∧ q = ps.length - i ∧ i ≤ ps.length ∧ (∀ j, j < i → (ps.getD j []).length ≤ 70) ∧ sat E w (osl 5 1 v (1 + (body (ps.take i)).length) ((UInt8.ofNat ps.length :: body (ps.take i)).map bv) * H)) ps.length
    ⟨0, _, rfl, rfl, by omega, fun j hj => by omega, by
      have := osl_of (n := 1) (sz := 1) (xs := [bv (UInt8.ofNat ps.length)]) h rfl (by omega)
      simpa [body] using this⟩ ?_
  clear h
  rintro q σ w again ⟨i, v, rfl, rfl, hi, hs, h⟩ hag
  have hes := body_short i hi hs
  rw [pop_cons, pop_cons, fin_nil, o_lss]
  refine cd_dec (fun hlt => ?_) (fun hge => ?_)
  · have hlt : i < ps.length := by omega
    obtain ⟨bb, o, c', hv, _, hp⟩ := hp.opened h.drop (by simp; omega)
    cases hv
    rw [o_index (by omega) (by omega)]
    refine ld_rd h hp.right i (by rw [Int.toNat_natCast]; omega) (gettv hlt) ?_
    rw [o_lenT, o_gtr]
    by_cases h3 : 70 < (ps.getD i []).length
    · have f3 : (70 : Int) < (ps.getD i []).length := by omega
      simp only [f3, ↓o_nil, ↓o_field, ↓o_add, ↓o_sub, ↓o_mul, ↓o_lss, ↓o_leq, ↓o_gtr, ↓o_geq, ↓o_not, ↓o_pick, ↓o_eqInt, ↓o_neInt, ↓o_eqBool, ↓o_neBool, ↓o_eqPtr, ↓o_nePtr, ↓o_eqPtr', ↓o_eqSl, ↓o_neSl, ↓o_eqStr, ↓o_neStr, ↓o_len, ↓o_lenS, ↓o_min, ↓o_max, ↓o_extract, ↓o_convInt, ↓cd_true, ↓cd_false, ↓gate_tt, ↓gate_ff, ↓gate_tf, ↓gate_ft, ↓gate_undef, ↓o_bind, ↓stay_v, ↓pop_cons, ↓fin_nil, Option.isNone_none, Option.isNone_some, Bool.not_true, Bool.not_false, Nat.zero_add, decide_true, decide_false, if_true, if_false, Bool.false_eq_true, ↓reduceIte]
      rw [row_long h2 hlt h3] at k
      exact back_nil h.drop k
    · have f3 : ¬ (70 : Int) < (ps.getD i []).length := by omega
      simp only [f3, ↓o_lenT, ↓o_nil, ↓o_field, ↓o_add, ↓o_sub, ↓o_mul, ↓o_lss, ↓o_leq, ↓o_gtr, ↓o_geq, ↓o_not, ↓o_pick, ↓o_eqInt, ↓o_neInt, ↓o_eqBool, ↓o_neBool, ↓o_eqPtr, ↓o_nePtr, ↓o_eqPtr', ↓o_eqSl, ↓o_neSl, ↓o_eqStr, ↓o_neStr, ↓o_len, ↓o_lenS, ↓o_min, ↓o_max, ↓o_extract, ↓o_convInt, ↓cd_true, ↓cd_false, ↓gate_tt, ↓gate_ff, ↓gate_tf, ↓gate_ft, ↓gate_undef, ↓o_bind, ↓stay_v, ↓pop_cons, ↓fin_nil, Option.isNone_none, Option.isNone_some, Bool.not_true, Bool.not_false, Nat.zero_add, decide_true, decide_false, if_true, if_false, Bool.false_eq_true, ↓reduceIte, bv_len (show (ps.getD i []).length < 256 by omega)]
      refine push_sl (v := v) h rfl rfl (by omega) (by omega) fun v2 w h => ?_
      refine append_str (v := v2) h (by omega) fun v3 w h => ?_
      (try rw [o_add]); rw [i64_of (by omega) (by omega)]
      refine hag (ps.length - (i + 1)) _ _ (by omega) ⟨i + 1, v3, rfl, rfl, by omega, fun j hj => ?_, ?_⟩
      · by_cases c1 : j < i
        · exact hs j c1
        · rw [show j = i by omega]; omega
      · rw [body_take hlt]
        have e : (UInt8.ofNat ps.length :: body (ps.take i)).map bv ++ [bv (UInt8.ofNat (ps.getD i []).length)] ++ (ps.getD i []).map bv = (UInt8.ofNat ps.length :: (body (ps.take i) ++ col (ps.getD i []))).map bv := by simp [col]
        have e2 : 1 + (body (ps.take i)).length + 1 + (ps.getD i []).length = 1 + (body (ps.take i) ++ col (ps.getD i [])).length := by simp [col]; omega
        rw [e, e2] at h
        exact h
  · have hi2 : i = ps.length := by omega
    subst hi2
    rw [List.take_length] at h hes
    obtain ⟨a2, c2, rfl, _, _, _⟩ := osl_shape h
    (try rw [o_len]); (try rw [o_gtr])
    rw [row_done h2 hs] at k
    have hrl : (rowOut ps).length = 1 + (body ps).length := by simp [rowOut]; omega
    by_cases h4 : 72 < (rowOut ps).length
    · have f4 : (72 : Int) < ((1 + (body ps).length : Nat) : Int) := by omega
      simp only [f4, ↓o_nil, ↓o_field, ↓o_add, ↓o_sub, ↓o_mul, ↓o_lss, ↓o_leq, ↓o_gtr, ↓o_geq, ↓o_not, ↓o_pick, ↓o_eqInt, ↓o_neInt, ↓o_eqBool, ↓o_neBool, ↓o_eqPtr, ↓o_nePtr, ↓o_eqPtr', ↓o_eqSl, ↓o_neSl, ↓o_eqStr, ↓o_neStr, ↓o_len, ↓o_lenS, ↓o_min, ↓o_max, ↓o_extract, ↓o_convInt, ↓cd_true, ↓cd_false, ↓gate_tt, ↓gate_ff, ↓gate_tf, ↓gate_ft, ↓gate_undef, ↓o_bind, ↓stay_v, ↓pop_cons, ↓fin_nil, Option.isNone_none, Option.isNone_some, Bool.not_true, Bool.not_false, Nat.zero_add, decide_true, decide_false, if_true, if_false, Bool.false_eq_true, ↓reduceIte]
      rw [if_pos h4] at k
      exact back_nil h.drop k
    · have f4 : ¬ (72 : Int) < ((1 + (body ps).length : Nat) : Int) := by omega
      simp only [f4, ↓o_nil, ↓o_field, ↓o_add, ↓o_sub, ↓o_mul, ↓o_lss, ↓o_leq, ↓o_gtr, ↓o_geq, ↓o_not, ↓o_pick, ↓o_eqInt, ↓o_neInt, ↓o_eqBool, ↓o_neBool, ↓o_eqPtr, ↓o_nePtr, ↓o_eqPtr', ↓o_eqSl, ↓o_neSl, ↓o_eqStr, ↓o_neStr, ↓o_len, ↓o_lenS, ↓o_min, ↓o_max, ↓o_extract, ↓o_convInt, ↓cd_true, ↓cd_false, ↓gate_tt, ↓gate_ff, ↓gate_tf, ↓gate_ft, ↓gate_undef, ↓o_bind, ↓stay_v, ↓pop_cons, ↓fin_nil, Option.isNone_none, Option.isNone_some, Bool.not_true, Bool.not_false, Nat.zero_add, decide_true, decide_false, if_true, if_false, Bool.false_eq_true, ↓reduceIte]
      rw [if_neg h4] at k
      refine k _ _ ?_
      rw [hrl]
      exact h
/-! Columns. -/
def colsGo : Nat → List UInt8 → Option (List (List UInt8))
  | 0, [] => some []
  | 0, _ :: _ => none
  | _ + 1, [] => none
  | n + 1, k :: b => if 70 < k.toNat ∨ b.length < k.toNat then none else (colsGo n (b.drop k.toNat)).map (b.take k.toNat :: ·)
def columns (b : List UInt8) : List (List UInt8) × Int :=
  if 72 < b.length then ([], 6) else match b with
    | [] => ([], 3)
    | n :: r => if 8 < n.toNat then ([], 3) else match colsGo n.toNat r with | some cs => (cs, 0) | none => ([], 3)
theorem colsGo_body : ∀ {cs : List (List UInt8)}, (∀ c ∈ cs, c.length ≤ 70) → colsGo cs.length (body cs) = some cs
  | [], _ => rfl
  | c :: cs, h => by
    have hc := h c (by simp)
    have ih := colsGo_body (cs := cs) fun x hx => h x (by simp [hx])
    have e : body (c :: cs) = UInt8.ofNat c.length :: (c ++ body cs) := by simp [body, col]
    have e2 : (UInt8.ofNat c.length).toNat = c.length := by rw [UInt8.toNat_ofNat']; omega
    rw [e]
    simp only [List.length_cons, colsGo, e2]
    rw [if_neg (by simp; omega), List.drop_left, List.take_left, ih]
    rfl
theorem colsGo_some : ∀ {n : Nat} {b : List UInt8} {cs : List (List UInt8)}, colsGo n b = some cs → cs.length = n ∧ (∀ c ∈ cs, c.length ≤ 70) ∧ b = body cs
  | 0, [], cs, h => by simp [colsGo] at h; subst h; simp [body]
  | 0, _ :: _, cs, h => by simp [colsGo] at h
  | n + 1, [], cs, h => by simp [colsGo] at h
  | n + 1, k :: b, cs, h => by
    unfold colsGo at h
    split at h
    · cases h
    · rename_i h1
      rw [Option.map_eq_some_iff] at h
      obtain ⟨l, hl, rfl⟩ := h
      obtain ⟨i1, i2, i3⟩ := colsGo_some hl
      have hkl : (b.take k.toNat).length = k.toNat := by simp; omega
      refine ⟨by simp [i1], ?_, ?_⟩
      · intro c hc
        rcases List.mem_cons.1 hc with rfl | hc
        · omega
        · exact i2 c hc
      · have e : body (b.take k.toNat :: l) = UInt8.ofNat (b.take k.toNat).length :: (b.take k.toNat ++ body l) := by simp [body, col]
        rw [e, hkl, ← i3, List.take_append_drop]
        simp
theorem colsGo_more : ∀ {n : Nat} {b : List UInt8} {cs : List (List UInt8)} {y : List UInt8}, colsGo n b = some cs → y ≠ [] → colsGo n (b ++ y) = none
  | 0, [], cs, y, h, hy => by
    cases y with
    | nil => exact absurd rfl hy
    | cons c y => rfl
  | 0, _ :: _, cs, y, h, hy => by simp [colsGo] at h
  | n + 1, [], cs, y, h, hy => by simp [colsGo] at h
  | n + 1, k :: b, cs, y, h, hy => by
    unfold colsGo at h
    split at h
    · cases h
    · rename_i h1
      rw [Option.map_eq_some_iff] at h
      obtain ⟨l, hl, rfl⟩ := h
      have ih := colsGo_more hl hy
      simp only [List.cons_append, colsGo]
      rw [if_neg (by simp; omega), List.drop_append_of_le_length (by omega), ih]
      rfl
theorem row_ok {cs : List (List UInt8)} (h : (row cs).2 = 0) : cs.length ≤ 8 ∧ (∀ c ∈ cs, c.length ≤ 70) ∧ (row cs).1 = rowOut cs ∧ (rowOut cs).length ≤ 72 := by
  unfold row at h ⊢
  split at h
  · cases h
  · rename_i h1
    rw [if_neg h1]
    split at h
    · rename_i h2
      rw [if_pos h2]
      split at h
      · cases h
      · rename_i h3
        rw [if_neg h3]
        refine ⟨by omega, fun c hc => ?_, rfl, by omega⟩
        simpa using List.all_eq_true.1 h2 c hc
    · cases h
theorem columns_row {cs : List (List UInt8)} (h : (row cs).2 = 0) : columns (row cs).1 = (cs, 0) := by
  obtain ⟨h1, h2, h3, h4⟩ := row_ok h
  rw [h3]
  have e : (UInt8.ofNat cs.length).toNat = cs.length := by rw [UInt8.toNat_ofNat']; omega
  have hg := colsGo_body h2
  unfold columns
  rw [if_neg (by omega)]
  unfold rowOut
  simp only [e, hg]
  rw [if_neg (by omega)]
theorem row_columns {b : List UInt8} (h : (columns b).2 = 0) : row (columns b).1 = (b, 0) := by
  unfold columns at h ⊢
  split at h
  · cases h
  · rename_i h1
    rw [if_neg h1]
    split at h
    · cases h
    · rename_i n r
      split at h
      · cases h
      · rename_i h2
        rw [if_neg h2]
        split at h
        · rename_i cs hcs
          obtain ⟨i1, i2, i3⟩ := colsGo_some hcs
          have e : rowOut cs = n :: r := by
            unfold rowOut
            rw [i1, ← i3]; simp
          simp only [hcs]
          unfold row
          rw [if_neg (by omega), if_pos (by refine List.all_eq_true.2 fun c hc => ?_; simpa using i2 c hc), e, if_neg h1]
        · cases h
/-- A row that is cut is none; nor is one that goes on. -/
theorem row_cut {cs : List (List UInt8)} (h : (row cs).2 = 0) {m : Nat} (hm : m < (rowOut cs).length) : (columns ((rowOut cs).take m)).2 = 3 := by
  obtain ⟨h1, h2, h3, h4⟩ := row_ok h
  have e : (UInt8.ofNat cs.length).toNat = cs.length := by rw [UInt8.toNat_ofNat']; omega
  have hg := colsGo_body h2
  unfold columns
  rw [if_neg (by simp; omega)]
  unfold rowOut at hm ⊢
  cases m with
  | zero => rfl
  | succ m =>
    rw [List.take_succ_cons]
    simp only [e]
    rw [if_neg (by omega)]
    split
    · rename_i l hl
      exfalso
      have hne : (body cs).drop m ≠ [] := by
        intro h0
        have := congrArg List.length h0
        simp at this hm
        omega
      have := colsGo_more hl hne
      rw [List.take_append_drop, hg] at this
      cases this
    · rfl
theorem row_on {cs : List (List UInt8)} (h : (row cs).2 = 0) (k : UInt8) : (columns (rowOut cs ++ [k])).2 = 3 ∨ (columns (rowOut cs ++ [k])).2 = 6 ∧ (rowOut cs).length = 72 := by
  obtain ⟨h1, h2, h3, h4⟩ := row_ok h
  have e : (UInt8.ofNat cs.length).toNat = cs.length := by rw [UInt8.toNat_ofNat']; omega
  have hg := colsGo_body h2
  by_cases h5 : (rowOut cs).length = 72
  · right
    refine ⟨?_, h5⟩
    unfold columns
    rw [if_pos (by simp; omega)]
  · left
    unfold columns
    rw [if_neg (by simp; omega)]
    unfold rowOut
    simp only [List.cons_append, e]
    rw [if_neg (by omega), colsGo_more hg (by simp)]
end Go.Proofs.YtmnaalpjhkkglaaGreatDoor

/-
  Numbers as texts.
-/
set_option linter.all false
set_option maxRecDepth 10000
namespace Go.Proofs.YtmnaalpjhkkglaaGreatDoor
open Go Hold
variable {E : World0} {w : World} {H R : HP} {K : Value → World → Prop}
def digs : List UInt8 := [48, 49, 50, 51, 52, 53, 54, 55, 56, 57, 97, 98, 99, 100, 101, 102]
def dig (n : Nat) : UInt8 := digs.getD n 0
def digs36 : List UInt8 := [48, 49, 50, 51, 52, 53, 54, 55, 56, 57, 97, 98, 99, 100, 101, 102, 103, 104, 105, 106, 107, 108, 109, 110, 111, 112, 113, 114, 115, 116, 117, 118, 119, 120, 121, 122]
theorem digs36_dig : ∀ n, n < 16 → digs36.getD n 0 = dig n := by decide
/-- The digits of a number to the base 16; none for 0. -/
def hexs (n : Nat) : List UInt8 := if h : n = 0 then [] else hexs (n / 16) ++ [dig (n % 16)]
termination_by n
decreasing_by omega
theorem hexs_zero : hexs 0 = [] := by unfold hexs; simp
theorem hexs_pos {n : Nat} (h : n ≠ 0) : hexs n = hexs (n / 16) ++ [dig (n % 16)] := by
  conv => lhs; unfold hexs
  simp [h]
theorem hexs_small {n : Nat} (h : n < 16) (h0 : n ≠ 0) : hexs n = [dig n] := by
  rw [hexs_pos h0, show n / 16 = 0 by omega, hexs_zero, Nat.mod_eq_of_lt h]; rfl
theorem hexs_length : ∀ (k n : Nat), n < 16 ^ k → (hexs n).length ≤ k
  | 0, n, h => by
    have : n = 0 := by simpa using h
    subst this; rw [hexs_zero]; simp
  | k + 1, n, h => by
    by_cases h0 : n = 0
    · subst h0; rw [hexs_zero]; simp
    · rw [hexs_pos h0, List.length_append]
      have := hexs_length k (n / 16) (by rw [Nat.pow_succ] at h; omega)
      simp; omega
/-- FormatInt's text: one nought for 0. -/
def fmt16 (n : Nat) : List UInt8 := if n = 0 then [48] else hexs n
theorem o_and15q {P : Program} {t : TypeId} {u : Nat} (hu : u < 18446744073709551616) {K : Value → World → Prop} : pvv P (binOp .and t (.int .u64 (u : Int)) (.int .u64 15)) w K = K (.int .u64 ((u % 16 : Nat) : Int)) w := pvv_eq fun w => by
  have e : ((BitVec.ofInt 64 (u : Int)) &&& (BitVec.ofInt 64 15)).toNat = u % 16 := by
    rw [BitVec.toNat_and]
    have h1 : (BitVec.ofInt 64 (u : Int)).toNat = u := by simp; omega
    have h2 : (BitVec.ofInt 64 15).toNat = 15 := by decide
    rw [h1, h2]
    exact Nat.and_two_pow_sub_one_eq_mod u 4
  show (pure (.int .u64 (IntKind.u64.wrap (((BitVec.ofInt 64 (u : Int)) &&& (BitVec.ofInt 64 15)).toNat : Int))) : Sem Value).run P w = _
  rw [e]
  have : IntKind.u64.wrap ((u % 16 : Nat) : Int) = ((u % 16 : Nat) : Int) := by rw [IntKind.wrap_u64]; omega
  rw [this]; rfl
/-- The table by which the lowest bit is found. -/
def Dbt (H : HP) : Prop := RdC H 7 15 (.int .u8 4)
theorem TZ_spec (h : sat E w H) (hd : Dbt H) (k : K (.int .i64 4) w) : Calls prog 151 #[.int .u64 16] w (Ret K) := by
  refine c151 ?_
  unfold B151
  rw [cd_false]
  refine c179 ?_
  unfold B179
  rw [o_eqInt, show decide ((16 : Int) = 0) = false from rfl, cd_false]
  refine pvv_of (v := .int .u64 18446744073709551600) (fun w => by kernel_rfl) ?_
  refine pvv_of (v := .int .u64 16) (fun w => by kernel_rfl) ?_
  refine pvv_of (v := .int .u64 4573923408821661840) (fun w => by kernel_rfl) ?_
  refine pvv_of (v := .int .u64 15) (fun w => by kernel_rfl) ?_
  refine pvv_of (v := .pointer (some ⟨7, 15, none⟩)) (fun w => by kernel_rfl) ?_
  refine ld_cell (hd E w h) ?_
  rw [o_convInt]
  exact k
theorem P2_spec (k : K (.bool true) w) : Calls prog 150 #[.int .i64 16] w (Ret K) := by
  refine c150 ?_
  unfold B150
  refine pvv_of (v := .int .i64 15) (fun w => by kernel_rfl) ?_
  refine pvv_of (v := .int .i64 0) (fun w => by kernel_rfl) ?_
  rw [o_eqInt]
  exact k
theorem map_bv_inj : ∀ {l m : List UInt8}, l.map bv = m.map bv → l = m
  | [], [], _ => rfl
  | [], _ :: _, h => by simp at h
  | _ :: _, [], h => by simp at h
  | a :: l, b :: m, h => by
    simp only [List.map_cons, List.cons.injEq] at h
    rw [bv_ne.1 h.1, map_bv_inj h.2]
theorem drop_set_at {α : Type} {xs : List α} {i : Nat} {v : α} {l : List α} (hi : i < xs.length) (h : xs.drop (i + 1) = l) : (xs.set i v).drop i = v :: l := by
  have : (xs.set i v).drop i = (xs.set i v)[i]'(by simpa using hi) :: (xs.set i v).drop (i + 1) := List.drop_eq_getElem_cons (by simpa using hi)
  rw [this, List.getElem_set_self, List.drop_set]
  simp [h]
theorem Format_spec (h : sat E w H) (hd : Dbt H) {n : Nat} (hn : n < 9223372036854775808) (k : ∀ w', sat E w' H → K (tv (fmt16 n)) w') : Calls prog 70 #[.int .i64 (n : Int), .int .i64 16] w (Ret K) := by
  refine c70 ?_
  unfold B70
  refine c92 ?_
  unfold B92
  have hneg : decide ((n : Int) < 0) = false := by simp
  have hw : IntKind.u64.wrap (n : Int) = (n : Int) := by rw [IntKind.wrap_u64]; omega
  simp only [show decide ((16 : Int) = 10) = false from rfl, hneg, hw, ↓o_nil, ↓o_field, ↓o_add, ↓o_sub, ↓o_mul, ↓o_lss, ↓o_leq, ↓o_gtr, ↓o_geq, ↓o_not, ↓o_pick, ↓o_eqInt, ↓o_neInt, ↓o_eqBool, ↓o_neBool, ↓o_eqPtr, ↓o_nePtr, ↓o_eqPtr', ↓o_eqSl, ↓o_neSl, ↓o_eqStr, ↓o_neStr, ↓o_len, ↓o_lenS, ↓o_min, ↓o_max, ↓o_extract, ↓o_convInt, ↓cd_true, ↓cd_false, ↓gate_tt, ↓gate_ff, ↓gate_tf, ↓gate_ft, ↓gate_undef, ↓o_bind, ↓stay_v, ↓pop_cons, ↓fin_nil, Option.isNone_none, Option.isNone_some, Bool.not_true, Bool.not_false, Nat.zero_add, decide_true, decide_false, if_true, if_false, Bool.false_eq_true, ↓reduceIte]
  refine c120 ?_
  unfold B120
  simp only [show decide ((16 : Int) < 2) = false from rfl, show decide ((16 : Int) = 10) = false from rfl, show decide ((36 : Int) < 16) = false from rfl, ↓o_nil, ↓o_field, ↓o_add, ↓o_sub, ↓o_mul, ↓o_lss, ↓o_leq, ↓o_gtr, ↓o_geq, ↓o_not, ↓o_pick, ↓o_eqInt, ↓o_neInt, ↓o_eqBool, ↓o_neBool, ↓o_eqPtr, ↓o_nePtr, ↓o_eqPtr', ↓o_eqSl, ↓o_neSl, ↓o_eqStr, ↓o_neStr, ↓o_len, ↓o_lenS, ↓o_min, ↓o_max, ↓o_extract, ↓o_convInt, ↓cd_true, ↓cd_false, ↓gate_tt, ↓gate_ff, ↓gate_tf, ↓gate_ft, ↓gate_undef, ↓o_bind, ↓stay_v, ↓pop_cons, ↓fin_nil, Option.isNone_none, Option.isNone_some, Bool.not_true, Bool.not_false, Nat.zero_add, decide_true, decide_false, if_true, if_false, Bool.false_eq_true, ↓reduceIte]
  refine jn_cut (fun σ w => σ = [] ∧ sat E w H) (fun kk hkk => hkk _ _ ⟨rfl, h⟩) ?_
  clear h
  rintro σ w ⟨rfl, h⟩
  simp only [↓o_nil, ↓o_field, ↓o_add, ↓o_sub, ↓o_mul, ↓o_lss, ↓o_leq, ↓o_gtr, ↓o_geq, ↓o_not, ↓o_pick, ↓o_eqInt, ↓o_neInt, ↓o_eqBool, ↓o_neBool, ↓o_eqPtr, ↓o_nePtr, ↓o_eqPtr', ↓o_eqSl, ↓o_neSl, ↓o_eqStr, ↓o_neStr, ↓o_len, ↓o_lenS, ↓o_min, ↓o_max, ↓o_extract, ↓o_convInt, ↓cd_true, ↓cd_false, ↓gate_tt, ↓gate_ff, ↓gate_tf, ↓gate_ft, ↓gate_undef, ↓o_bind, ↓stay_v, ↓pop_cons, ↓fin_nil, Option.isNone_none, Option.isNone_some, Bool.not_true, Bool.not_false, Nat.zero_add, decide_true, decide_false, if_true, if_false, Bool.false_eq_true, ↓reduceIte]
  refine alloc_sl h fun b w h => ?_
  have h : sat E w (pts b (.cells (List.replicate 65 (bv 0)).toArray 222 (0, 0)) * H) := h
  refine jn_cut (fun σ w => σ = [.int .u64 (n : Int)] ∧ sat E w (pts b (.cells (List.replicate 65 (bv 0)).toArray 222 (0, 0)) * H)) (fun kk hkk => hkk _ _ ⟨rfl, h⟩) ?_
  clear h
  rintro σ w ⟨rfl, h⟩
  rw [pop_cons, fin_nil]
  refine jn_cut (fun σ w => ∃ (i : Nat) (xs : List Value), σ = [.int .i64 (i : Int)] ∧ xs.length = 65 ∧ i ≤ 65 ∧ xs.drop i = (fmt16 n).map bv ∧ sat E w (pts b (.cells xs.toArray 222 (0, 0)) * H)) (fun kk hkk => ?_) ?_
  · refine P2_spec ?_
    simp only [show IntKind.u64.wrap 16 = 16 from rfl, ↓o_nil, ↓o_field, ↓o_add, ↓o_sub, ↓o_mul, ↓o_lss, ↓o_leq, ↓o_gtr, ↓o_geq, ↓o_not, ↓o_pick, ↓o_eqInt, ↓o_neInt, ↓o_eqBool, ↓o_neBool, ↓o_eqPtr, ↓o_nePtr, ↓o_eqPtr', ↓o_eqSl, ↓o_neSl, ↓o_eqStr, ↓o_neStr, ↓o_len, ↓o_lenS, ↓o_min, ↓o_max, ↓o_extract, ↓o_convInt, ↓cd_true, ↓cd_false, ↓gate_tt, ↓gate_ff, ↓gate_tf, ↓gate_ft, ↓gate_undef, ↓o_bind, ↓stay_v, ↓pop_cons, ↓fin_nil, Option.isNone_none, Option.isNone_some, Bool.not_true, Bool.not_false, Nat.zero_add, decide_true, decide_false, if_true, if_false, Bool.false_eq_true, ↓reduceIte]
    refine TZ_spec h hd.right ?_
    simp only [show IntKind.u64.wrap 16 = 16 from rfl, show IntKind.u64.wrap 4 = 4 from rfl, show IntKind.u64.wrap ((16 : Int) - 1) = 15 from rfl, ↓o_nil, ↓o_field, ↓o_add, ↓o_sub, ↓o_mul, ↓o_lss, ↓o_leq, ↓o_gtr, ↓o_geq, ↓o_not, ↓o_pick, ↓o_eqInt, ↓o_neInt, ↓o_eqBool, ↓o_neBool, ↓o_eqPtr, ↓o_nePtr, ↓o_eqPtr', ↓o_eqSl, ↓o_neSl, ↓o_eqStr, ↓o_neStr, ↓o_len, ↓o_lenS, ↓o_min, ↓o_max, ↓o_extract, ↓o_convInt, ↓cd_true, ↓cd_false, ↓gate_tt, ↓gate_ff, ↓gate_tf, ↓gate_ft, ↓gate_undef, ↓o_bind, ↓stay_v, ↓pop_cons, ↓fin_nil, Option.isNone_none, Option.isNone_some, Bool.not_true, Bool.not_false, Nat.zero_add, decide_true, decide_false, if_true, if_false, Bool.false_eq_true, ↓reduceIte]
    refine lp_nat (fun q σ w => ∃ (u i : Nat) (xs : List Value), σ = [.int .u64 (u : Int), .int .i64 (i : Int)] ∧ q = u ∧ u ≤ n ∧ u < 16 ^ (i - 49) ∧ 49 ≤ i ∧ i ≤ 65 ∧ xs.length = 65 ∧ (n ≠ 0 → u ≠ 0) ∧ (∀ l : List UInt8, xs.drop i = l.map bv → hexs n = hexs u ++ l) ∧ (∃ l : List UInt8, xs.drop i = l.map bv) ∧ sat E w (pts b (.cells xs.toArray 222 (0, 0)) * H)) n
      ⟨n, 65, List.replicate 65 (bv 0), rfl, rfl, Nat.le_refl _, by show n < 16 ^ 16; omega, by omega, by omega, by simp, fun h => h, fun l hl => by
        have : l = [] := by
          have := congrArg List.length hl
          simp at this
          exact List.eq_nil_of_length_eq_zero this.symm
        subst this; simp, ⟨[], by simp⟩, h⟩ ?_
    clear h
    rintro q σ w again ⟨u, i, xs, rfl, hq, hun, hui, hi1, hi2, hxl, hnz, hl1, ⟨l, hl2⟩, h⟩ hag
    rw [pop_cons, pop_cons, fin_nil, o_geq]
    have hu64 : u < 18446744073709551616 := by omega
    refine cd_dec (fun hge => ?_) (fun hlt => ?_)
    · have hi3 : 50 ≤ i := by
        rcases Nat.lt_or_ge i 50 with h5 | h5
        · rw [show i - 49 = 0 by omega] at hui; simp at hui; omega
        · exact h5
      have e1 : IntKind.i64.wrap ((i : Int) - 1) = ((i - 1 : Nat) : Int) := by rw [i64_of (by omega) (by omega)]; omega
      rw [o_sub, e1, o_and15q hu64]
      rw [show (Value.string ⟨#[48, 49, 50, 51, 52, 53, 54, 55, 56, 57, 97, 98, 99, 100, 101, 102, 103, 104, 105, 106, 107, 108, 109, 110, 111, 112, 113, 114, 115, 116, 117, 118, 119, 120, 121, 122]⟩) = tv digs36 from rfl, o_indexT (by omega) (by show u % 16 < 36; omega), Int.toNat_natCast, digs36_dig _ (by omega), o_indexA (by omega) (by omega)]
      refine store_sl (b := b) (o := 0 + ((i - 1 : Nat) : Int).toNat) h rfl (by rw [Int.toNat_natCast]; omega) fun w h => ?_
      rw [show Value.int .u64 4 = Value.int .u64 ((4 : Nat) : Int) from rfl, o_shr (by decide)]
      have hdr : (xs.set (0 + ((i - 1 : Nat) : Int).toNat) (bv (dig (u % 16)))).drop (i - 1) = bv (dig (u % 16)) :: l.map bv := by
        rw [Nat.zero_add, Int.toNat_natCast]
        exact drop_set_at (by omega) (by rw [show i - 1 + 1 = i by omega]; exact hl2)
      refine hag (u / 16) _ _ (by omega) ⟨u / 16, i - 1, _, rfl, rfl, by omega, ?_, by omega, by omega, by rw [List.length_set]; exact hxl, fun h0 => by omega, fun l' hl' => ?_, ⟨dig (u % 16) :: l, hdr⟩, h⟩
      · rw [show i - 49 = (i - 1 - 49) + 1 by omega, Nat.pow_succ] at hui; omega
      · rw [hdr] at hl'
        have e2 : l' = dig (u % 16) :: l := by
          exact (map_bv_inj (by rw [← hl']; rfl)).symm
        rw [e2, hl1 l hl2, hexs_pos (show u ≠ 0 by omega)]; simp
    · have hi3 : 1 ≤ i := by omega
      have e1 : IntKind.i64.wrap ((i : Int) - 1) = ((i - 1 : Nat) : Int) := by rw [i64_of (by omega) (by omega)]; omega
      have hu16 : u < 16 := by omega
      rw [o_sub, e1, show (Value.string ⟨#[48, 49, 50, 51, 52, 53, 54, 55, 56, 57, 97, 98, 99, 100, 101, 102, 103, 104, 105, 106, 107, 108, 109, 110, 111, 112, 113, 114, 115, 116, 117, 118, 119, 120, 121, 122]⟩) = tv digs36 from rfl, o_indexT (by omega) (by show u < 36; omega), Int.toNat_natCast, digs36_dig _ hu16, o_indexA (by omega) (by omega)]
      refine store_sl (b := b) (o := 0 + ((i - 1 : Nat) : Int).toNat) h rfl (by rw [Int.toNat_natCast]; omega) fun w h => ?_
      have hdr : (xs.set (0 + ((i - 1 : Nat) : Int).toNat) (bv (dig u))).drop (i - 1) = bv (dig u) :: l.map bv := by
        rw [Nat.zero_add, Int.toNat_natCast]
        exact drop_set_at (by omega) (by rw [show i - 1 + 1 = i by omega]; exact hl2)
      refine hkk _ _ ⟨i - 1, _, rfl, by rw [List.length_set]; exact hxl, by omega, ?_, h⟩
      rw [hdr]
      have hh := hl1 l hl2
      unfold fmt16
      by_cases h0 : n = 0
      · subst h0
        have hu0 : u = 0 := by omega
        subst hu0
        rw [hexs_zero] at hh
        have : l = [] := by simpa using hh.symm
        subst this
        rfl
      · rw [if_neg h0, hh, hexs_small hu16 (hnz h0)]; rfl
  · clear h
    rintro σ w ⟨i, xs, rfl, hxl, hi, hdr, h⟩
    rw [pop_cons, fin_nil]
    refine jn_cut (fun σ w => σ = [.int .i64 (i : Int)] ∧ sat E w (pts b (.cells xs.toArray 222 (0, 0)) * H)) (fun kk hkk => by (try rw [cd_false]); exact hkk _ _ ⟨rfl, h⟩) ?_
    clear h
    rintro σ w ⟨rfl, h⟩
    have hfl : (fmt16 n).length + i = 65 := by
      have := congrArg List.length hdr
      simp at this; omega
    have hfp : 0 < (fmt16 n).length := by
      unfold fmt16
      split
      · simp
      · rename_i h0; rw [hexs_pos h0]; simp
    rw [pop_cons, fin_nil]
    (try rw [cd_false]); rw [o_sliceA_l (by omega) (by omega), Int.toNat_natCast]
    refine conv_bs (l := fmt16 n) ⟨_, _, by rw [show 65 - i = (fmt16 n).length by omega], by omega, .inr ⟨b, 0 + i, _, _, _, rfl, Has.get h, fun j v hj => ?_⟩⟩ ?_
    · rw [← hdr, List.getElem?_drop] at hj
      simpa using hj
    · try simp only [↓o_nil, ↓o_field, ↓o_add, ↓o_sub, ↓o_mul, ↓o_lss, ↓o_leq, ↓o_gtr, ↓o_geq, ↓o_not, ↓o_pick, ↓o_eqInt, ↓o_neInt, ↓o_eqBool, ↓o_neBool, ↓o_eqPtr, ↓o_nePtr, ↓o_eqPtr', ↓o_eqSl, ↓o_neSl, ↓o_eqStr, ↓o_neStr, ↓o_len, ↓o_lenS, ↓o_min, ↓o_max, ↓o_extract, ↓o_convInt, ↓cd_true, ↓cd_false, ↓gate_tt, ↓gate_ff, ↓gate_tf, ↓gate_ft, ↓gate_undef, ↓o_bind, ↓stay_v, ↓pop_cons, ↓fin_nil, Option.isNone_none, Option.isNone_some, Bool.not_true, Bool.not_false, Nat.zero_add, decide_true, decide_false, if_true, if_false, Bool.false_eq_true, ↓reduceIte]
      exact k _ h.drop
theorem TrimPrefix_spec {s : List UInt8} (k : K (tv (if s.take 1 = [48] then s.drop 1 else s)) w) : Calls prog 69 #[tv s, tv [48]] w (Ret K) := by
  refine c69 ?_
  unfold B69
  refine c91 ?_
  unfold B91
  refine c102 ?_
  unfold B102
  rw [o_lenT, o_lenT, o_geq, show ([48] : List UInt8).length = 1 from rfl]
  by_cases h1 : 1 ≤ s.length
  · have f1 : ((1 : Nat) : Int) ≤ s.length := by omega
    simp only [f1, ↓o_lenT, ↓o_nil, ↓o_field, ↓o_add, ↓o_sub, ↓o_mul, ↓o_lss, ↓o_leq, ↓o_gtr, ↓o_geq, ↓o_not, ↓o_pick, ↓o_eqInt, ↓o_neInt, ↓o_eqBool, ↓o_neBool, ↓o_eqPtr, ↓o_nePtr, ↓o_eqPtr', ↓o_eqSl, ↓o_neSl, ↓o_eqStr, ↓o_neStr, ↓o_len, ↓o_lenS, ↓o_min, ↓o_max, ↓o_extract, ↓o_convInt, ↓cd_true, ↓cd_false, ↓gate_tt, ↓gate_ff, ↓gate_tf, ↓gate_ft, ↓gate_undef, ↓o_bind, ↓stay_v, ↓pop_cons, ↓fin_nil, Option.isNone_none, Option.isNone_some, Bool.not_true, Bool.not_false, Nat.zero_add, decide_true, decide_false, if_true, if_false, Bool.false_eq_true, ↓reduceIte, show ([48] : List UInt8).length = 1 from rfl]
    rw [o_sliceT_h (by omega) (by omega), Int.toNat_natCast]
    simp only [↓o_eqT, ↓o_nil, ↓o_field, ↓o_add, ↓o_sub, ↓o_mul, ↓o_lss, ↓o_leq, ↓o_gtr, ↓o_geq, ↓o_not, ↓o_pick, ↓o_eqInt, ↓o_neInt, ↓o_eqBool, ↓o_neBool, ↓o_eqPtr, ↓o_nePtr, ↓o_eqPtr', ↓o_eqSl, ↓o_neSl, ↓o_eqStr, ↓o_neStr, ↓o_len, ↓o_lenS, ↓o_min, ↓o_max, ↓o_extract, ↓o_convInt, ↓cd_true, ↓cd_false, ↓gate_tt, ↓gate_ff, ↓gate_tf, ↓gate_ft, ↓gate_undef, ↓o_bind, ↓stay_v, ↓pop_cons, ↓fin_nil, Option.isNone_none, Option.isNone_some, Bool.not_true, Bool.not_false, Nat.zero_add, decide_true, decide_false, if_true, if_false, Bool.false_eq_true, ↓reduceIte]
    by_cases h2 : s.take 1 = [48]
    · simp only [h2, ↓o_lenT, ↓o_nil, ↓o_field, ↓o_add, ↓o_sub, ↓o_mul, ↓o_lss, ↓o_leq, ↓o_gtr, ↓o_geq, ↓o_not, ↓o_pick, ↓o_eqInt, ↓o_neInt, ↓o_eqBool, ↓o_neBool, ↓o_eqPtr, ↓o_nePtr, ↓o_eqPtr', ↓o_eqSl, ↓o_neSl, ↓o_eqStr, ↓o_neStr, ↓o_len, ↓o_lenS, ↓o_min, ↓o_max, ↓o_extract, ↓o_convInt, ↓cd_true, ↓cd_false, ↓gate_tt, ↓gate_ff, ↓gate_tf, ↓gate_ft, ↓gate_undef, ↓o_bind, ↓stay_v, ↓pop_cons, ↓fin_nil, Option.isNone_none, Option.isNone_some, Bool.not_true, Bool.not_false, Nat.zero_add, decide_true, decide_false, if_true, if_false, Bool.false_eq_true, ↓reduceIte, show ([48] : List UInt8).length = 1 from rfl]
      rw [o_sliceT_l (by omega) (by omega), Int.toNat_natCast]
      rw [if_pos h2] at k
      exact k
    · simp only [h2, ↓o_nil, ↓o_field, ↓o_add, ↓o_sub, ↓o_mul, ↓o_lss, ↓o_leq, ↓o_gtr, ↓o_geq, ↓o_not, ↓o_pick, ↓o_eqInt, ↓o_neInt, ↓o_eqBool, ↓o_neBool, ↓o_eqPtr, ↓o_nePtr, ↓o_eqPtr', ↓o_eqSl, ↓o_neSl, ↓o_eqStr, ↓o_neStr, ↓o_len, ↓o_lenS, ↓o_min, ↓o_max, ↓o_extract, ↓o_convInt, ↓cd_true, ↓cd_false, ↓gate_tt, ↓gate_ff, ↓gate_tf, ↓gate_ft, ↓gate_undef, ↓o_bind, ↓stay_v, ↓pop_cons, ↓fin_nil, Option.isNone_none, Option.isNone_some, Bool.not_true, Bool.not_false, Nat.zero_add, decide_true, decide_false, if_true, if_false, Bool.false_eq_true, ↓reduceIte]
      rw [if_neg h2] at k
      exact k
  · have f1 : ¬ ((1 : Nat) : Int) ≤ s.length := by omega
    have h0 : s = [] := List.eq_nil_of_length_eq_zero (by omega)
    simp only [f1, ↓o_nil, ↓o_field, ↓o_add, ↓o_sub, ↓o_mul, ↓o_lss, ↓o_leq, ↓o_gtr, ↓o_geq, ↓o_not, ↓o_pick, ↓o_eqInt, ↓o_neInt, ↓o_eqBool, ↓o_neBool, ↓o_eqPtr, ↓o_nePtr, ↓o_eqPtr', ↓o_eqSl, ↓o_neSl, ↓o_eqStr, ↓o_neStr, ↓o_len, ↓o_lenS, ↓o_min, ↓o_max, ↓o_extract, ↓o_convInt, ↓cd_true, ↓cd_false, ↓gate_tt, ↓gate_ff, ↓gate_tf, ↓gate_ft, ↓gate_undef, ↓o_bind, ↓stay_v, ↓pop_cons, ↓fin_nil, Option.isNone_none, Option.isNone_some, Bool.not_true, Bool.not_false, Nat.zero_add, decide_true, decide_false, if_true, if_false, Bool.false_eq_true, ↓reduceIte]
    subst h0
    exact k
/-- The text of a number. -/
def numText (n : Nat) : List UInt8 := UInt8.ofNat (97 + (hexs n).length) :: hexs n
def number (n : Int) : List UInt8 × Int := if n < 0 ∨ 4611686018427387904 < n then ([], 2) else (numText n.toNat, 0)
def nv2 (x : List UInt8 × Int) : Value := .tuple #[tv x.1, .int .i64 x.2]
theorem dig_nought : ∀ n, n < 16 → n ≠ 0 → dig n ≠ 48 := by decide
theorem hexs_first {n : Nat} : (hexs n).take 1 ≠ [48] := by
  induction n using Nat.strongRecOn with
  | _ n ih =>
    by_cases h0 : n = 0
    · subst h0; rw [hexs_zero]; simp
    · rw [hexs_pos h0]
      by_cases h1 : n / 16 = 0
      · rw [h1, hexs_zero]
        have := dig_nought (n % 16) (by omega) (by omega)
        simpa using this
      · have hne : hexs (n / 16) ≠ [] := by rw [hexs_pos h1]; simp
        have := ih (n / 16) (by omega)
        rw [List.take_append_of_le_length (by
          have := List.length_pos_iff.2 hne; omega)]
        exact this
theorem conv_rune {P : Program} {s d : TypeId} {n : Nat} (hn : n < 128) [i : Ul P s (.int .i32)] [j : Ul P d .string] (k : K (tv [UInt8.ofNat n]) w) : pvv P (convert s d (.int .i32 (n : Int))) w K := by
  have key : ∀ n : Fin 128, Utf8.encode (n.val : Int) = ⟨#[UInt8.ofNat n.val]⟩ := by decide +kernel
  refine pvv_of (fun w => run_convert_int_string (P := P) w s d .i32 (n : Int) (by rw [i.ul]; rfl) j.ul) ?_
  rw [key ⟨n, hn⟩]
  exact k
theorem Number_spec (h : sat E w H) (hd : Dbt H) {n : Int} (k : ∀ w', sat E w' H → K (nv2 (number n)) w') : Calls prog 52 #[.int .i64 n] w (Ret K) := by
  refine c52 ?_
  unfold B52
  rw [o_lss]
  by_cases h1 : n < 0
  · simp only [h1, ↓o_nil, ↓o_field, ↓o_add, ↓o_sub, ↓o_mul, ↓o_lss, ↓o_leq, ↓o_gtr, ↓o_geq, ↓o_not, ↓o_pick, ↓o_eqInt, ↓o_neInt, ↓o_eqBool, ↓o_neBool, ↓o_eqPtr, ↓o_nePtr, ↓o_eqPtr', ↓o_eqSl, ↓o_neSl, ↓o_eqStr, ↓o_neStr, ↓o_len, ↓o_lenS, ↓o_min, ↓o_max, ↓o_extract, ↓o_convInt, ↓cd_true, ↓cd_false, ↓gate_tt, ↓gate_ff, ↓gate_tf, ↓gate_ft, ↓gate_undef, ↓o_bind, ↓stay_v, ↓pop_cons, ↓fin_nil, Option.isNone_none, Option.isNone_some, Bool.not_true, Bool.not_false, Nat.zero_add, decide_true, decide_false, if_true, if_false, Bool.false_eq_true, ↓reduceIte]
    have e : number n = ([], 2) := by unfold number; rw [if_pos (.inl h1)]
    rw [e] at k
    exact k _ h
  simp only [h1, ↓o_nil, ↓o_field, ↓o_add, ↓o_sub, ↓o_mul, ↓o_lss, ↓o_leq, ↓o_gtr, ↓o_geq, ↓o_not, ↓o_pick, ↓o_eqInt, ↓o_neInt, ↓o_eqBool, ↓o_neBool, ↓o_eqPtr, ↓o_nePtr, ↓o_eqPtr', ↓o_eqSl, ↓o_neSl, ↓o_eqStr, ↓o_neStr, ↓o_len, ↓o_lenS, ↓o_min, ↓o_max, ↓o_extract, ↓o_convInt, ↓cd_true, ↓cd_false, ↓gate_tt, ↓gate_ff, ↓gate_tf, ↓gate_ft, ↓gate_undef, ↓o_bind, ↓stay_v, ↓pop_cons, ↓fin_nil, Option.isNone_none, Option.isNone_some, Bool.not_true, Bool.not_false, Nat.zero_add, decide_true, decide_false, if_true, if_false, Bool.false_eq_true, ↓reduceIte]
  by_cases h2 : 4611686018427387904 < n
  · simp only [h2, ↓o_nil, ↓o_field, ↓o_add, ↓o_sub, ↓o_mul, ↓o_lss, ↓o_leq, ↓o_gtr, ↓o_geq, ↓o_not, ↓o_pick, ↓o_eqInt, ↓o_neInt, ↓o_eqBool, ↓o_neBool, ↓o_eqPtr, ↓o_nePtr, ↓o_eqPtr', ↓o_eqSl, ↓o_neSl, ↓o_eqStr, ↓o_neStr, ↓o_len, ↓o_lenS, ↓o_min, ↓o_max, ↓o_extract, ↓o_convInt, ↓cd_true, ↓cd_false, ↓gate_tt, ↓gate_ff, ↓gate_tf, ↓gate_ft, ↓gate_undef, ↓o_bind, ↓stay_v, ↓pop_cons, ↓fin_nil, Option.isNone_none, Option.isNone_some, Bool.not_true, Bool.not_false, Nat.zero_add, decide_true, decide_false, if_true, if_false, Bool.false_eq_true, ↓reduceIte]
    have e : number n = ([], 2) := by unfold number; rw [if_pos (.inr h2)]
    rw [e] at k
    exact k _ h
  simp only [h2, ↓o_nil, ↓o_field, ↓o_add, ↓o_sub, ↓o_mul, ↓o_lss, ↓o_leq, ↓o_gtr, ↓o_geq, ↓o_not, ↓o_pick, ↓o_eqInt, ↓o_neInt, ↓o_eqBool, ↓o_neBool, ↓o_eqPtr, ↓o_nePtr, ↓o_eqPtr', ↓o_eqSl, ↓o_neSl, ↓o_eqStr, ↓o_neStr, ↓o_len, ↓o_lenS, ↓o_min, ↓o_max, ↓o_extract, ↓o_convInt, ↓cd_true, ↓cd_false, ↓gate_tt, ↓gate_ff, ↓gate_tf, ↓gate_ft, ↓gate_undef, ↓o_bind, ↓stay_v, ↓pop_cons, ↓fin_nil, Option.isNone_none, Option.isNone_some, Bool.not_true, Bool.not_false, Nat.zero_add, decide_true, decide_false, if_true, if_false, Bool.false_eq_true, ↓reduceIte]
  obtain ⟨n, rfl⟩ := Int.eq_ofNat_of_zero_le (show 0 ≤ n by omega)
  have e : number (n : Int) = (numText n, 0) := by unfold number; rw [if_neg (by omega)]; rfl
  rw [e] at k
  refine Format_spec h hd (by omega) fun w h => ?_
  have hlen : (hexs n).length ≤ 16 := hexs_length 16 n (by show n < 16 ^ 16; omega)
  refine TrimPrefix_spec ?_
  have e2 : (if (fmt16 n).take 1 = [48] then (fmt16 n).drop 1 else fmt16 n) = hexs n := by
    unfold fmt16
    by_cases h0 : n = 0
    · subst h0; rw [if_pos rfl, hexs_zero]; rfl
    · rw [if_neg h0, if_neg hexs_first]
  rw [e2, o_lenT, o_add, i64_of (by omega) (by omega), o_convInt]
  have e3 : IntKind.i32.wrap ((97 : Int) + (hexs n).length) = ((97 + (hexs n).length : Nat) : Int) := by rw [IntKind.wrap_i32]; omega
  rw [e3]
  refine conv_rune (P := prog) (s := 21) (d := 9) (n := 97 + (hexs n).length) (by omega) ?_
  rw [o_catT (by simp; omega)]
  exact k _ h
end Go.Proofs.YtmnaalpjhkkglaaGreatDoor

/-
  Events of a chain; numbers as texts, the reference's; the hash behind an event.
-/
set_option linter.all false
set_option maxRecDepth 10000
namespace Go.Proofs.YtmnaalpjhkkglaaGreatDoor
open Go Hold
variable {E : World0} {w : World} {H R : HP} {K : Value → World → Prop}
theorem Dbt.up {H0 H1 R1 : HP} (h : Dbt H1) [s : Split H0 H1 R1] : Dbt H0 := fun E w hs => h E w (hs.split H1).drop'
def numT (n : Int) : List UInt8 := (number n).1
theorem num_spec (h : sat E w H) (hd : Dbt H) {n : Int} (k : ∀ w', sat E w' H → K (tv (numT n)) w') : Calls prog 30 #[.int .i64 n] w (Ret K) := by
  refine c30 ?_
  unfold B30
  refine Number_spec h hd fun w h => ?_
  unfold nv2
  rw [o_extract, o_extract]
  exact k _ h
/-- An event. -/
structure Evt where
  n : Int
  t : Int
  what : List UInt8
  who : List UInt8
  deriving DecidableEq
def ecells (x : Evt) : List Value := [.int .i64 x.n, .int .i64 x.t, tv x.what, tv x.who]
def ev (x : Evt) : Value := .agg (ecells x).toArray
def evs (l : List Evt) : List Value := l.flatMap ecells
def zeroE : Evt := ⟨0, 0, [], []⟩
theorem ecells_one (x : Evt) : ∀ v ∈ ecells x, v.oneCell' = true := by
  intro v hv
  simp [ecells] at hv
  rcases hv with rfl | rfl | rfl | rfl <;> rfl
theorem evs_one (l : List Evt) : ∀ v ∈ evs l, v.oneCell' = true := by
  intro v hv
  obtain ⟨x, _, hx⟩ := List.mem_flatMap.1 hv
  exact ecells_one x v hx
theorem evs_length : ∀ (l : List Evt), (evs l).length = l.length * 4
  | [] => rfl
  | x :: l => by
    have := evs_length l
    simp only [evs, List.flatMap_cons, List.length_append, List.length_cons] at this ⊢
    rw [this]; simp [ecells]; omega
theorem evs_append (a b : List Evt) : evs (a ++ b) = evs a ++ evs b := by simp [evs]
theorem evs_drop : ∀ (l : List Evt) (i : Nat), (evs l).drop (i * 4) = evs (l.drop i)
  | l, 0 => by simp
  | [], i + 1 => by simp [evs]
  | x :: l, i + 1 => by
    have e : evs (x :: l) = ecells x ++ evs l := rfl
    rw [e, List.drop_append, show (i + 1) * 4 = i * 4 + 4 by omega]
    simp [ecells, evs_drop l i]
theorem evs_at {l : List Evt} {i : Nat} {x : Evt} (h : l[i]? = some x) : ((evs l).drop (i * 4)).take 4 = ecells x := by
  rw [evs_drop]
  have hlt := (List.getElem?_eq_some_iff.1 h).1
  rw [List.drop_eq_getElem_cons hlt, (List.getElem?_eq_some_iff.1 h).2]
  rfl
def colsE (x : Evt) : List (List UInt8) := [numT x.n, numT x.t, x.what, x.who]
def rowE (x : Evt) : List UInt8 := (row (colsE x)).1
def nx (h : List UInt8) (x : Evt) : List UInt8 := sha (h ++ rowE x)
theorem nx_length (h : List UInt8) (x : Evt) : (nx h x).length = 32 := sha_length _
theorem row_le (cs : List (List UInt8)) : (row cs).1.length ≤ 72 := by
  unfold row
  split
  · simp
  · split
    · split
      · simp
      · simp only; omega
    · simp
theorem next_spec (h : sat E w H) (hd : Dbt H) {l : List UInt8} (hl : l.length = 32) {x : Evt} (k : ∀ w', sat E w' H → K (.agg ((nx l x).map bv).toArray) w') : Calls prog 28 #[.agg (l.map bv).toArray, ev x] w (Ret K) := by
  refine c28 ?_
  unfold B28
  refine box_sl h fun b1 w h => ?_
  have h : sat E w (pts b1 (.cells (l.map bv).toArray 28 (0, 0)) * H) := h
  refine box_sl h fun b2 w h => ?_
  have h : sat E w (pts b2 (.cells (ecells x).toArray 31 (0, 0)) * (pts b1 (.cells (l.map bv).toArray 28 (0, 0)) * H)) := h
  refine alloc_sl h fun b3 w h => ?_
  have h : sat E w (pts b3 (.cells ((List.replicate 32 (0 : UInt8)).map bv).toArray 28 (0, 0)) * (pts b2 (.cells (ecells x).toArray 31 (0, 0)) * (pts b1 (.cells (l.map bv).toArray 28 (0, 0)) * H))) := h
  refine dr_sl h fun w h _ => ?_
  simp only [↓o_nil, ↓o_field, ↓o_add, ↓o_sub, ↓o_mul, ↓o_lss, ↓o_leq, ↓o_gtr, ↓o_geq, ↓o_not, ↓o_pick, ↓o_eqInt, ↓o_neInt, ↓o_eqBool, ↓o_neBool, ↓o_eqPtr, ↓o_nePtr, ↓o_eqPtr', ↓o_eqSl, ↓o_neSl, ↓o_eqStr, ↓o_neStr, ↓o_len, ↓o_lenS, ↓o_min, ↓o_max, ↓o_extract, ↓o_convInt, ↓cd_true, ↓cd_false, ↓gate_tt, ↓gate_ff, ↓gate_tf, ↓gate_ft, ↓gate_undef, ↓o_bind, ↓stay_v, ↓pop_cons, ↓fin_nil, Option.isNone_none, Option.isNone_some, Bool.not_true, Bool.not_false, Nat.zero_add, decide_true, decide_false, if_true, if_false, Bool.false_eq_true, ↓reduceIte]
  refine ld_in (b := b2) (v := .int .i64 x.n) h rfl ?_
  refine ld_in (b := b2) (v := .int .i64 x.t) h rfl ?_
  refine ld_in (b := b2) (v := tv x.what) h rfl ?_
  refine ld_in (b := b2) (v := tv x.who) h rfl ?_
  have hd3 : Dbt (pts b3 (.cells ((List.replicate 32 (0 : UInt8)).map bv).toArray 28 (0, 0)) * (pts b2 (.cells (ecells x).toArray 31 (0, 0)) * (pts b1 (.cells (l.map bv).toArray 28 (0, 0)) * H))) := hd.right.right.right
  refine num_spec h hd3 fun w h => ?_
  refine st_cell (cell_of ((h.drop.own b2).pts_get) (by rfl)) ?_
  refine st_cell (cell_of ((h.drop.own b2).pts_get) (by rfl)) ?_
  refine st_cell (cell_of ((h.drop.own b2).pts_get) (by rfl)) ?_
  refine num_spec h hd3 fun w h => ?_
  refine st_cell (cell_of ((h.drop.own b2).pts_get) (by rfl)) ?_
  refine st_cell (cell_of ((h.drop.own b2).pts_get) (by rfl)) ?_
  refine st_cell (cell_of ((h.drop.own b2).pts_get) (by rfl)) ?_
  refine buildSlice_sl (e := 9) (cs := ((colsE x).map tv).toArray) h (fun w => by kernel_rfl) fun b4 w h => ?_
  refine st_cell (cell_of ((h.drop.drop.own b2).pts_get) (by rfl)) ?_
  refine st_cell (cell_of ((h.drop.drop.own b2).pts_get) (by rfl)) ?_
  refine Row_spec (ps := colsE x) h (rds_block (b := b4) (Nat.le_refl _)) (by simp [colsE]) fun v w h => ?_
  refine st_cell (cell_of ((h.drop.drop.drop.own b2).pts_get) (by rfl)) ?_
  refine st_cell (cell_of ((h.drop.drop.drop.own b2).pts_get) (by rfl)) ?_
  refine st_cell (cell_of ((h.drop.drop.drop.own b2).pts_get) (by rfl)) ?_
  refine st_cell (cell_of ((h.drop.drop.drop.own b2).pts_get) (by rfl)) ?_
  rw [o_extract, o_extract]
  refine ld_agg (b := b1) h (by simpa using hl) ?_
  have hr := row_le (colsE x)
  refine Chain_spec h hl Rds.osl.left (by omega) fun w h => ?_
  exact hash_ret (b := b3) h (sha_length _) (by simp) fun w h => k _ h.drop.drop.drop.drop.drop
end Go.Proofs.YtmnaalpjhkkglaaGreatDoor

/-
  A chain as it is held; its simple functions; adding.
-/
set_option linter.all false
set_option maxRecDepth 10000
namespace Go.Proofs.YtmnaalpjhkkglaaGreatDoor
open Go Hold
variable {E : World0} {w : World} {H R : HP} {K : Value → World → Prop}
/-- A chain: the base, the anchor, the head, the last time, the events. -/
structure Ch where
  bn : Int
  bh : List UInt8
  an : Int
  ah : List UInt8
  hd : List UInt8
  last : Int
  l : List Evt
structure Ok (s : Ch) (m : Nat) : Prop where
  b : s.bh.length = 32
  a : s.ah.length = 32
  h : s.hd.length = 32
  b0 : 0 ≤ s.bn
  a0 : 0 ≤ s.an
  le : s.an ≤ s.bn + s.l.length
  top : s.bn + s.l.length ≤ m
  few : s.l.length ≤ 64
def icells (s : Ch) (v : Value) : List Value := .int .i64 s.bn :: (s.bh.map bv ++ (.int .i64 s.an :: (s.ah.map bv ++ (s.hd.map bv ++ [.int .i64 s.last, v]))))
theorem part_at {xs : List Value} (A B C : List Value) {o n : Nat} (e : xs = A ++ (B ++ C)) (hA : A.length = o) (hB : B.length = n) : (xs.drop o).take n = B := by rw [e, List.drop_left' hA, List.take_left' hB]
theorem part_cell {xs : List Value} (A C : List Value) {x : Value} {o : Nat} (e : xs = A ++ ([x] ++ C)) (hA : A.length = o) : xs[o]? = some x := by
  have := take_cell (j := 0) (v := x) (part_at A [x] C e hA rfl) rfl
  simpa using this
theorem part_put {xs : List Value} (A B C B' : List Value) {ys : List Value} {o n : Nat} (e : xs = A ++ (B ++ C)) (hA : A.length = o) (hB : B.length = n) (e' : A ++ (B' ++ C) = ys) : xs.take o ++ B' ++ xs.drop (o + n) = ys := by
  rw [e, List.take_left' hA, ← List.append_assoc A B C, List.drop_left' (by rw [List.length_append, hA, hB]), List.append_assoc]
  exact e'
theorem part_set {xs : List Value} (A C : List Value) {x y : Value} {ys : List Value} {o : Nat} (e : xs = A ++ ([x] ++ C)) (hA : A.length = o) (e' : A ++ ([y] ++ C) = ys) : xs.set o y = ys := by
  rw [← take_set_drop xs o y (by rw [e]; simp [hA])]
  exact part_put A [x] C [y] e hA rfl e'
section
variable {s : Ch} {v : Value} {m : Nat}
theorem ic_length (ok : Ok s m) : (icells s v).length = 100 := by simp [icells, ok.b, ok.a, ok.h]
theorem ic_bn : (icells s v)[0]? = some (.int .i64 s.bn) := rfl
theorem ic_an (ok : Ok s m) : (icells s v)[33]? = some (.int .i64 s.an) := part_cell (.int .i64 s.bn :: s.bh.map bv) (s.ah.map bv ++ (s.hd.map bv ++ [.int .i64 s.last, v])) (by simp [icells]) (by simp [ok.b])
theorem ic_last (ok : Ok s m) : (icells s v)[98]? = some (.int .i64 s.last) := part_cell (.int .i64 s.bn :: (s.bh.map bv ++ (.int .i64 s.an :: (s.ah.map bv ++ s.hd.map bv)))) [v] (by simp [icells]) (by simp [ok.b, ok.a, ok.h])
theorem ic_l (ok : Ok s m) : (icells s v)[99]? = some v := part_cell (.int .i64 s.bn :: (s.bh.map bv ++ (.int .i64 s.an :: (s.ah.map bv ++ (s.hd.map bv ++ [.int .i64 s.last]))))) [] (by simp [icells]) (by simp [ok.b, ok.a, ok.h])
theorem ic_ah (ok : Ok s m) : ((icells s v).drop 34).take 32 = s.ah.map bv := part_at (.int .i64 s.bn :: (s.bh.map bv ++ [.int .i64 s.an])) _ (s.hd.map bv ++ [.int .i64 s.last, v]) (by simp [icells]) (by simp [ok.b]) (by simp [ok.a])
theorem ic_hd (ok : Ok s m) : ((icells s v).drop 66).take 32 = s.hd.map bv := part_at (.int .i64 s.bn :: (s.bh.map bv ++ (.int .i64 s.an :: s.ah.map bv))) _ [.int .i64 s.last, v] (by simp [icells]) (by simp [ok.b, ok.a]) (by simp [ok.h])
theorem ic_base (ok : Ok s m) : ((icells s v).drop 0).take 33 = .int .i64 s.bn :: s.bh.map bv := part_at [] _ (.int .i64 s.an :: (s.ah.map bv ++ (s.hd.map bv ++ [.int .i64 s.last, v]))) (by simp [icells]) rfl (by simp [ok.b])
theorem ic_anchor (ok : Ok s m) : ((icells s v).drop 33).take 33 = .int .i64 s.an :: s.ah.map bv := part_at (.int .i64 s.bn :: s.bh.map bv) _ (s.hd.map bv ++ [.int .i64 s.last, v]) (by simp [icells]) (by simp [ok.b]) (by simp [ok.a])
theorem ip_l (ok : Ok s m) {l : List Evt} {u : Value} : (icells s v).set 99 u = icells { s with l := l } u := part_set (.int .i64 s.bn :: (s.bh.map bv ++ (.int .i64 s.an :: (s.ah.map bv ++ (s.hd.map bv ++ [.int .i64 s.last]))))) [] (x := v) (by simp [icells]) (by simp [ok.b, ok.a, ok.h]) (by simp [icells])
theorem ip_last (ok : Ok s m) {t : Int} : (icells s v).set 98 (.int .i64 t) = icells { s with last := t } v := part_set (.int .i64 s.bn :: (s.bh.map bv ++ (.int .i64 s.an :: (s.ah.map bv ++ s.hd.map bv)))) [v] (x := .int .i64 s.last) (by simp [icells]) (by simp [ok.b, ok.a, ok.h]) (by simp [icells])
theorem ip_hd (ok : Ok s m) {h : List UInt8} : (icells s v).take 66 ++ h.map bv ++ (icells s v).drop (66 + 32) = icells { s with hd := h } v := part_put (.int .i64 s.bn :: (s.bh.map bv ++ (.int .i64 s.an :: s.ah.map bv))) (s.hd.map bv) [.int .i64 s.last, v] _ (by simp [icells]) (by simp [ok.b, ok.a]) (by simp [ok.h]) (by simp [icells])
theorem ip_anchor (ok : Ok s m) {n : Int} {h : List UInt8} : (icells s v).take 33 ++ (.int .i64 n :: h.map bv) ++ (icells s v).drop (33 + 33) = icells { s with an := n, ah := h } v := part_put (.int .i64 s.bn :: s.bh.map bv) (.int .i64 s.an :: s.ah.map bv) (s.hd.map bv ++ [.int .i64 s.last, v]) _ (by simp [icells]) (by simp [ok.b]) (by simp [ok.a]) (by simp [icells])
theorem ip_base (ok : Ok s m) {n : Int} {h : List UInt8} : (icells s v).take 0 ++ (.int .i64 n :: h.map bv) ++ (icells s v).drop (0 + 33) = icells { s with bn := n, bh := h } v := part_put [] (.int .i64 s.bn :: s.bh.map bv) (.int .i64 s.an :: (s.ah.map bv ++ (s.hd.map bv ++ [.int .i64 s.last, v]))) _ (by simp [icells]) rfl (by simp [ok.b]) (by simp [icells])
end
abbrev chI (p : Nat) (s : Ch) (v : Value) (R : HP) : HP := pts p (.cells (icells s v).toArray 69 (0, 0)) * (pers (immS v s.l.length (evs s.l)) * R)
theorem Rds.evs {v : Value} {s : Ch} {p : Nat} {R : HP} : Rds (chI p s v R) v s.l.length (evs s.l) := Rds.pers.left.right
def zeros32 : List UInt8 := List.replicate 32 0
def newS : Ch := ⟨0, zeros32, 0, zeros32, zeros32, 0, []⟩
theorem ok_new : Ok newS 0 := ⟨rfl, rfl, rfl, by decide, by decide, by decide, by decide, by decide⟩
theorem New_spec (h : sat E w R) (k : ∀ p w', sat E w' (chI p newS (.slice none 0 0) R) → K (.pointer (some ⟨p, 0, none⟩)) w') : Calls prog 5 #[] w (Ret K) := by
  refine c5 ?_
  unfold B5
  refine pvv_of (v := .agg (icells newS (.slice none 0 0)).toArray) (fun w => by kernel_rfl) ?_
  refine box_sl h fun p w h => k p w ?_
  have h : sat E w (pts p (.cells (icells newS (.slice none 0 0)).toArray 69 (0, 0)) * R) := h
  unfold chI
  rw [star_left_comm]
  exact h.mono fun I h' hp' => (pers_star_p _ _ _ _).2 ⟨⟨none, 0, rfl, Nat.le_refl _, .inl rfl⟩, hp'⟩
theorem Count_spec {p m : Nat} {s : Ch} {a : Option Addr} {c : Nat} (ok : Ok s m) (hm : m ≤ 1000000000000000) (h : sat E w H) [Has H p (.cells (icells s (.slice a s.l.length c)).toArray 69 (0, 0))]
    (k : ∀ w', sat E w' H → K (.int .i64 (s.bn + s.l.length)) w') : Calls prog 27 #[.pointer (some ⟨p, 0, none⟩)] w (Ret K) := by
  have := ok.b0; have := ok.top; have := ok.few
  refine c27 ?_
  unfold B27
  try simp only [↓o_nil, ↓o_field, ↓o_add, ↓o_sub, ↓o_mul, ↓o_lss, ↓o_leq, ↓o_gtr, ↓o_geq, ↓o_not, ↓o_pick, ↓o_eqInt, ↓o_neInt, ↓o_eqBool, ↓o_neBool, ↓o_eqPtr, ↓o_nePtr, ↓o_eqPtr', ↓o_eqSl, ↓o_neSl, ↓o_eqStr, ↓o_neStr, ↓o_len, ↓o_lenS, ↓o_min, ↓o_max, ↓o_extract, ↓o_convInt, ↓cd_true, ↓cd_false, ↓gate_tt, ↓gate_ff, ↓gate_tf, ↓gate_ft, ↓gate_undef, ↓o_bind, ↓stay_v, ↓pop_cons, ↓fin_nil, Option.isNone_none, Option.isNone_some, Bool.not_true, Bool.not_false, Nat.zero_add, decide_true, decide_false, if_true, if_false, Bool.false_eq_true, ↓reduceIte]
  refine dr_sl h fun w h _ => ?_
  try simp only [↓o_nil, ↓o_field, ↓o_add, ↓o_sub, ↓o_mul, ↓o_lss, ↓o_leq, ↓o_gtr, ↓o_geq, ↓o_not, ↓o_pick, ↓o_eqInt, ↓o_neInt, ↓o_eqBool, ↓o_neBool, ↓o_eqPtr, ↓o_nePtr, ↓o_eqPtr', ↓o_eqSl, ↓o_neSl, ↓o_eqStr, ↓o_neStr, ↓o_len, ↓o_lenS, ↓o_min, ↓o_max, ↓o_extract, ↓o_convInt, ↓cd_true, ↓cd_false, ↓gate_tt, ↓gate_ff, ↓gate_tf, ↓gate_ft, ↓gate_undef, ↓o_bind, ↓stay_v, ↓pop_cons, ↓fin_nil, Option.isNone_none, Option.isNone_some, Bool.not_true, Bool.not_false, Nat.zero_add, decide_true, decide_false, if_true, if_false, Bool.false_eq_true, ↓reduceIte]
  refine ld_in (b := p) (v := .int .i64 s.bn) h ic_bn ?_
  refine ld_in (b := p) (v := .slice a s.l.length c) h (ic_l ok) ?_
  rw [o_len, o_add, i64_of (by omega) (by omega)]
  exact k _ h
theorem Count_nil (k : K (.int .i64 0) w) : Calls prog 27 #[.pointer none] w (Ret K) := by
  refine c27 ?_
  unfold B27
  try simp only [↓o_nil, ↓o_field, ↓o_add, ↓o_sub, ↓o_mul, ↓o_lss, ↓o_leq, ↓o_gtr, ↓o_geq, ↓o_not, ↓o_pick, ↓o_eqInt, ↓o_neInt, ↓o_eqBool, ↓o_neBool, ↓o_eqPtr, ↓o_nePtr, ↓o_eqPtr', ↓o_eqSl, ↓o_neSl, ↓o_eqStr, ↓o_neStr, ↓o_len, ↓o_lenS, ↓o_min, ↓o_max, ↓o_extract, ↓o_convInt, ↓cd_true, ↓cd_false, ↓gate_tt, ↓gate_ff, ↓gate_tf, ↓gate_ft, ↓gate_undef, ↓o_bind, ↓stay_v, ↓pop_cons, ↓fin_nil, Option.isNone_none, Option.isNone_some, Bool.not_true, Bool.not_false, Nat.zero_add, decide_true, decide_false, if_true, if_false, Bool.false_eq_true, ↓reduceIte]
  exact k
theorem zeroH_build {K : Value → World → Prop} (k : K (.agg (zeros32.map bv).toArray) w) : pvv prog (Instr.build 28 #[]) w K := pvv_of (fun w => by kernel_rfl) k
theorem Head_spec {p m : Nat} {s : Ch} {v : Value} (ok : Ok s m) (h : sat E w H) [Has H p (.cells (icells s v).toArray 69 (0, 0))]
    (k : ∀ w', sat E w' H → K (.agg (s.hd.map bv).toArray) w') : Calls prog 15 #[.pointer (some ⟨p, 0, none⟩)] w (Ret K) := by
  refine c15 ?_
  unfold B15
  refine alloc_sl h fun b w h => ?_
  have h : sat E w (pts b (.cells (zeros32.map bv).toArray 28 (0, 0)) * H) := h
  try simp only [↓o_nil, ↓o_field, ↓o_add, ↓o_sub, ↓o_mul, ↓o_lss, ↓o_leq, ↓o_gtr, ↓o_geq, ↓o_not, ↓o_pick, ↓o_eqInt, ↓o_neInt, ↓o_eqBool, ↓o_neBool, ↓o_eqPtr, ↓o_nePtr, ↓o_eqPtr', ↓o_eqSl, ↓o_neSl, ↓o_eqStr, ↓o_neStr, ↓o_len, ↓o_lenS, ↓o_min, ↓o_max, ↓o_extract, ↓o_convInt, ↓cd_true, ↓cd_false, ↓gate_tt, ↓gate_ff, ↓gate_tf, ↓gate_ft, ↓gate_undef, ↓o_bind, ↓stay_v, ↓pop_cons, ↓fin_nil, Option.isNone_none, Option.isNone_some, Bool.not_true, Bool.not_false, Nat.zero_add, decide_true, decide_false, if_true, if_false, Bool.false_eq_true, ↓reduceIte]
  refine ld_part (b := p) h (s.hd.map bv) (by simp [ok.h]) (ic_hd ok) ?_
  exact hash_ret (b := b) h ok.h (ol := zeros32) rfl fun w h => k _ h.drop
theorem Head_nil (h : sat E w H) (k : ∀ w', sat E w' H → K (.agg (zeros32.map bv).toArray) w') : Calls prog 15 #[.pointer none] w (Ret K) := by
  refine c15 ?_
  unfold B15
  refine alloc_sl h fun b w h => ?_
  have h : sat E w (pts b (.cells (zeros32.map bv).toArray 28 (0, 0)) * H) := h
  try simp only [↓o_nil, ↓o_field, ↓o_add, ↓o_sub, ↓o_mul, ↓o_lss, ↓o_leq, ↓o_gtr, ↓o_geq, ↓o_not, ↓o_pick, ↓o_eqInt, ↓o_neInt, ↓o_eqBool, ↓o_neBool, ↓o_eqPtr, ↓o_nePtr, ↓o_eqPtr', ↓o_eqSl, ↓o_neSl, ↓o_eqStr, ↓o_neStr, ↓o_len, ↓o_lenS, ↓o_min, ↓o_max, ↓o_extract, ↓o_convInt, ↓cd_true, ↓cd_false, ↓gate_tt, ↓gate_ff, ↓gate_tf, ↓gate_ft, ↓gate_undef, ↓o_bind, ↓stay_v, ↓pop_cons, ↓fin_nil, Option.isNone_none, Option.isNone_some, Bool.not_true, Bool.not_false, Nat.zero_add, decide_true, decide_false, if_true, if_false, Bool.false_eq_true, ↓reduceIte]
  refine zeroH_build ?_
  exact hash_ret (b := b) h (l := zeros32) rfl (ol := zeros32) rfl fun w h => k _ h.drop
theorem hash_ret3 (h : sat E w H) {b : Nat} {l ol : List UInt8} {n : Int} (hl : l.length = 32) (hol : ol.length = 32) [Own H b (.cells (ol.map bv).toArray 28 (0, 0)) R]
    (k : ∀ w', sat E w' (pts b (.cells (l.map bv).toArray 28 (0, 0)) * R) → K (.tuple #[.int .i64 n, .agg (l.map bv).toArray]) w') :
    efu prog (Instr.storeAt 28 (.pointer (some ⟨b, 0, none⟩)) (.agg (l.map bv).toArray)) w fun _ w =>
      ∃ r, (do loadVar 28 (← asAddr (.pointer (some ⟨b, 0, none⟩)))).run prog w = .ok r w ∧ K (.tuple #[.int .i64 n, r]) w :=
  hash_ret (K := fun r w => K (.tuple #[.int .i64 n, r]) w) h hl hol k
theorem Anchored_spec {p m : Nat} {s : Ch} {v : Value} (ok : Ok s m) (h : sat E w H) [Has H p (.cells (icells s v).toArray 69 (0, 0))]
    (k : ∀ w', sat E w' H → K (.tuple #[.int .i64 s.an, .agg (s.ah.map bv).toArray]) w') : Calls prog 29 #[.pointer (some ⟨p, 0, none⟩)] w (Ret K) := by
  refine c29 ?_
  unfold B29
  refine alloc_sl h fun b w h => ?_
  have h : sat E w (pts b (.cells (zeros32.map bv).toArray 28 (0, 0)) * H) := h
  try simp only [↓o_nil, ↓o_field, ↓o_add, ↓o_sub, ↓o_mul, ↓o_lss, ↓o_leq, ↓o_gtr, ↓o_geq, ↓o_not, ↓o_pick, ↓o_eqInt, ↓o_neInt, ↓o_eqBool, ↓o_neBool, ↓o_eqPtr, ↓o_nePtr, ↓o_eqPtr', ↓o_eqSl, ↓o_neSl, ↓o_eqStr, ↓o_neStr, ↓o_len, ↓o_lenS, ↓o_min, ↓o_max, ↓o_extract, ↓o_convInt, ↓cd_true, ↓cd_false, ↓gate_tt, ↓gate_ff, ↓gate_tf, ↓gate_ft, ↓gate_undef, ↓o_bind, ↓stay_v, ↓pop_cons, ↓fin_nil, Option.isNone_none, Option.isNone_some, Bool.not_true, Bool.not_false, Nat.zero_add, decide_true, decide_false, if_true, if_false, Bool.false_eq_true, ↓reduceIte]
  refine dr_sl h fun w h _ => ?_
  try simp only [↓o_nil, ↓o_field, ↓o_add, ↓o_sub, ↓o_mul, ↓o_lss, ↓o_leq, ↓o_gtr, ↓o_geq, ↓o_not, ↓o_pick, ↓o_eqInt, ↓o_neInt, ↓o_eqBool, ↓o_neBool, ↓o_eqPtr, ↓o_nePtr, ↓o_eqPtr', ↓o_eqSl, ↓o_neSl, ↓o_eqStr, ↓o_neStr, ↓o_len, ↓o_lenS, ↓o_min, ↓o_max, ↓o_extract, ↓o_convInt, ↓cd_true, ↓cd_false, ↓gate_tt, ↓gate_ff, ↓gate_tf, ↓gate_ft, ↓gate_undef, ↓o_bind, ↓stay_v, ↓pop_cons, ↓fin_nil, Option.isNone_none, Option.isNone_some, Bool.not_true, Bool.not_false, Nat.zero_add, decide_true, decide_false, if_true, if_false, Bool.false_eq_true, ↓reduceIte]
  refine ld_in (b := p) (v := .int .i64 s.an) h (ic_an ok) ?_
  refine ld_part (b := p) h (s.ah.map bv) (by simp [ok.a]) (ic_ah ok) ?_
  exact hash_ret3 (b := b) h ok.a (ol := zeros32) rfl fun w h => k _ h.drop
theorem Anchored_nil (h : sat E w H) (k : ∀ w', sat E w' H → K (.tuple #[.int .i64 0, .agg (zeros32.map bv).toArray]) w') : Calls prog 29 #[.pointer none] w (Ret K) := by
  refine c29 ?_
  unfold B29
  refine alloc_sl h fun b w h => ?_
  have h : sat E w (pts b (.cells (zeros32.map bv).toArray 28 (0, 0)) * H) := h
  try simp only [↓o_nil, ↓o_field, ↓o_add, ↓o_sub, ↓o_mul, ↓o_lss, ↓o_leq, ↓o_gtr, ↓o_geq, ↓o_not, ↓o_pick, ↓o_eqInt, ↓o_neInt, ↓o_eqBool, ↓o_neBool, ↓o_eqPtr, ↓o_nePtr, ↓o_eqPtr', ↓o_eqSl, ↓o_neSl, ↓o_eqStr, ↓o_neStr, ↓o_len, ↓o_lenS, ↓o_min, ↓o_max, ↓o_extract, ↓o_convInt, ↓cd_true, ↓cd_false, ↓gate_tt, ↓gate_ff, ↓gate_tf, ↓gate_ft, ↓gate_undef, ↓o_bind, ↓stay_v, ↓pop_cons, ↓fin_nil, Option.isNone_none, Option.isNone_some, Bool.not_true, Bool.not_false, Nat.zero_add, decide_true, decide_false, if_true, if_false, Bool.false_eq_true, ↓reduceIte]
  refine zeroH_build ?_
  exact hash_ret3 (b := b) h (l := zeros32) rfl (ol := zeros32) rfl fun w h => k _ h.drop
theorem build57 {n : Int} {l : List UInt8} (hl : l.length = 32) (k : K (.agg (.int .i64 n :: l.map bv).toArray) w) : pvv prog (Instr.build 66 #[(0, .int .i64 n), (1, .agg (l.map bv).toArray)]) w K := by
  obtain ⟨f, rfl⟩ : ∃ f : Nat → UInt8, l = (List.range 32).map f := ⟨fun i => l.getD i 0, by
    apply List.ext_getElem
    · simp [hl]
    · intro i h1 h2
      simp [List.getD_eq_getElem?_getD, h1]⟩
  exact pvv_of (fun w => by kernel_rfl) k
def anchorS (s : Ch) : Ch := { s with an := s.bn + s.l.length, ah := s.hd }
theorem ok_anchor {s : Ch} {m : Nat} (ok : Ok s m) : Ok (anchorS s) m := ⟨ok.b, ok.h, ok.h, ok.b0, by have := ok.b0; simp only [anchorS]; omega, by simp only [anchorS]; omega, ok.top, ok.few⟩
theorem Anchor_spec {p m : Nat} {s : Ch} {v : Value} (ok : Ok s m) (hm : m ≤ 1000000000000000) (h : sat E w (chI p s v R))
    (k : ∀ w', sat E w' (chI p (anchorS s) v R) → K (.tuple #[.int .i64 (anchorS s).an, .agg ((anchorS s).ah.map bv).toArray]) w') : Calls prog 9 #[.pointer (some ⟨p, 0, none⟩)] w (Ret K) := by
  obtain ⟨a, c, rfl, hc, hv, _⟩ := (Rds.evs (s := s)).shape h
  refine c9 ?_
  unfold B9
  refine alloc_sl h fun b w h => ?_
  have h : sat E w (pts b (.cells (zeros32.map bv).toArray 28 (0, 0)) * chI p s (.slice a s.l.length c) R) := h
  try simp only [↓o_nil, ↓o_field, ↓o_add, ↓o_sub, ↓o_mul, ↓o_lss, ↓o_leq, ↓o_gtr, ↓o_geq, ↓o_not, ↓o_pick, ↓o_eqInt, ↓o_neInt, ↓o_eqBool, ↓o_neBool, ↓o_eqPtr, ↓o_nePtr, ↓o_eqPtr', ↓o_eqSl, ↓o_neSl, ↓o_eqStr, ↓o_neStr, ↓o_len, ↓o_lenS, ↓o_min, ↓o_max, ↓o_extract, ↓o_convInt, ↓cd_true, ↓cd_false, ↓gate_tt, ↓gate_ff, ↓gate_tf, ↓gate_ft, ↓gate_undef, ↓o_bind, ↓stay_v, ↓pop_cons, ↓fin_nil, Option.isNone_none, Option.isNone_some, Bool.not_true, Bool.not_false, Nat.zero_add, decide_true, decide_false, if_true, if_false, Bool.false_eq_true, ↓reduceIte]
  refine dr_sl h fun w h _ => ?_
  try simp only [↓o_nil, ↓o_field, ↓o_add, ↓o_sub, ↓o_mul, ↓o_lss, ↓o_leq, ↓o_gtr, ↓o_geq, ↓o_not, ↓o_pick, ↓o_eqInt, ↓o_neInt, ↓o_eqBool, ↓o_neBool, ↓o_eqPtr, ↓o_nePtr, ↓o_eqPtr', ↓o_eqSl, ↓o_neSl, ↓o_eqStr, ↓o_neStr, ↓o_len, ↓o_lenS, ↓o_min, ↓o_max, ↓o_extract, ↓o_convInt, ↓cd_true, ↓cd_false, ↓gate_tt, ↓gate_ff, ↓gate_tf, ↓gate_ft, ↓gate_undef, ↓o_bind, ↓stay_v, ↓pop_cons, ↓fin_nil, Option.isNone_none, Option.isNone_some, Bool.not_true, Bool.not_false, Nat.zero_add, decide_true, decide_false, if_true, if_false, Bool.false_eq_true, ↓reduceIte]
  refine ld_part (b := p) h (s.hd.map bv) (by simp [ok.h]) (ic_hd ok) ?_
  refine Count_spec ok hm h fun w h => ?_
  refine st_part (b := p) h (s.hd.map bv) (by simp [ok.h]) (ic_hd ok) ?_
  refine build57 ok.h ?_
  try simp only [↓o_nil, ↓o_field, ↓o_add, ↓o_sub, ↓o_mul, ↓o_lss, ↓o_leq, ↓o_gtr, ↓o_geq, ↓o_not, ↓o_pick, ↓o_eqInt, ↓o_neInt, ↓o_eqBool, ↓o_neBool, ↓o_eqPtr, ↓o_nePtr, ↓o_eqPtr', ↓o_eqSl, ↓o_neSl, ↓o_eqStr, ↓o_neStr, ↓o_len, ↓o_lenS, ↓o_min, ↓o_max, ↓o_extract, ↓o_convInt, ↓cd_true, ↓cd_false, ↓gate_tt, ↓gate_ff, ↓gate_tf, ↓gate_ft, ↓gate_undef, ↓o_bind, ↓stay_v, ↓pop_cons, ↓fin_nil, Option.isNone_none, Option.isNone_some, Bool.not_true, Bool.not_false, Nat.zero_add, decide_true, decide_false, if_true, if_false, Bool.false_eq_true, ↓reduceIte]
  refine store_part (b := p) h (icells (anchorS s) (.slice a s.l.length c)) (by simp [ok.h]) (by
    intro x hx
    rcases List.mem_cons.1 hx with rfl | hx
    · rfl
    · exact bv_one _ x hx) (by rw [ic_length ok]; omega) (ip_anchor ok) fun w h => ?_
  refine Anchored_spec (p := p) (ok_anchor ok) h fun w h => ?_
  rw [o_extract, o_extract]
  refine hash_ret3 (b := b) h (l := (anchorS s).ah) (ok_anchor ok).a (ol := zeros32) rfl fun w h => k _ ?_
  have h := h.drop
  exact h
end Go.Proofs.YtmnaalpjhkkglaaGreatDoor

/-
  A tree of keys of which none is gone and none was turned: its versions, its keys, sealing and opening.
-/
set_option linter.all false
set_option maxRecDepth 100000
namespace Go.Proofs.YtmnaalpjhkkglaaGreatDoor
open Go Hold
variable {E : World0} {w : World} {H R : HP} {K : Value → World → Prop}
theorem look0_ld (h : sat E w H) {t kt vt b : Nat} {key z : Value} [i : Ul prog t (.map kt vt)] [q : ZeroC prog vt z] [s : OwnM H b [] R] {kd : TypeDesc} (uk : prog.underlying kt = some kd)
    (ck : ∀ (b : Bool) (w : World), (Instr.checkKey b 10000 kt key).run prog w = .ok () w) (kk : K z w) : ldv prog (Instr.lookup t (.map (some b)) key false) w K := by
  obtain ⟨ns, c, st, hp⟩ := sat_omap.1 (h.perm s.eq)
  have hn : ns = [] := List.eq_nil_of_length_eq_zero st.len
  subst hn
  refine ldv_of ?_ kk
  have hb := hp.pts_get
  simp only [ents] at hb
  simp [Instr.lookup, run_underlying' i.ul, getObj_at hb, ck, Instr.findKey, Instr.findNow, run_underlying' uk, run_zero q]
def tcells (root : Bs) (n : Nat) (g a : Nat) : List Value := root.map bv ++ [.int .i64 (n : Int), .map (some g), .map (some a)]
abbrev tI (p : Nat) (root : Bs) (n g a : Nat) (R : HP) : HP := pts p (.cells (tcells root n g a).toArray 73 (0, 0)) * (omap g [] * (omap a [] * R))
section
variable {root : Bs} {n g a : Nat}
theorem tc_root (hr : root.length = 32) : ((tcells root n g a).drop 0).take 32 = root.map bv := part_at [] _ [.int .i64 (n : Int), .map (some g), .map (some a)] (by simp [tcells]) rfl (by simp [hr])
theorem tc_n (hr : root.length = 32) : (tcells root n g a)[32]? = some (.int .i64 (n : Int)) := part_cell (root.map bv) [.map (some g), .map (some a)] (by simp [tcells]) (by simp [hr])
theorem tc_g (hr : root.length = 32) : (tcells root n g a)[33]? = some (.map (some g)) := part_cell (root.map bv ++ [.int .i64 (n : Int)]) [.map (some a)] (by simp [tcells]) (by simp [hr])
theorem tc_a (hr : root.length = 32) : (tcells root n g a)[34]? = some (.map (some a)) := part_cell (root.map bv ++ [.int .i64 (n : Int), .map (some g)]) [] (by simp [tcells]) (by simp [hr])
theorem tp_n (hr : root.length = 32) : (tcells root n g a).set 32 (.int .i64 ((n + 1 : Nat) : Int)) = tcells root (n + 1) g a := part_set (root.map bv) [.map (some g), .map (some a)] (x := .int .i64 (n : Int)) (by simp [tcells]) (by simp [hr]) (by simp [tcells])
theorem tc_len (hr : root.length = 32) : (tcells root n g a).length = 35 := by simp [tcells, hr]
theorem fn32 {l : List UInt8} (hl : l.length = 32) : ∃ f : Nat → UInt8, l = (List.range 32).map f := ⟨fun i => l.getD i 0, by
    apply List.ext_getElem
    · simp [hl]
    · intro i h1 h2
      simp [List.getD_eq_getElem?_getD, h1]⟩
theorem KNew_spec (hr : root.length = 32) (h : sat E w R) (k : ∀ p g a w', sat E w' (tI p root 0 g a R) → K (.pointer (some ⟨p, 0, none⟩)) w') : Calls prog 6 #[.agg (root.map bv).toArray] w (Ret K) := by
  refine c6 ?_
  unfold B6
  refine box_sl h fun b w h => ?_
  have h : sat E w (pts b (.cells (root.map bv).toArray 28 (0, 0)) * R) := h
  refine ld_agg (b := b) h (by simpa using hr) ?_
  refine make_map h fun g w h => ?_
  refine make_map h fun a w h => ?_
  have e : ∀ {K : Value → World → Prop}, K (.agg (tcells root 0 g a).toArray) w → pvv prog (Instr.build 73 #[(0, .agg (root.map bv).toArray), (2, .map (some g)), (3, .map (some a))]) w K := fun {K} k => by
    obtain ⟨f, rfl⟩ := fn32 hr
    exact pvv_of (fun w => by kernel_rfl) k
  refine e ?_
  refine box_sl h fun p w h => k p g a w ?_
  have h : sat E w (pts p (.cells (tcells root 0 g a).toArray 73 (0, 0)) * (omap a [] * (omap g [] * (pts b (.cells (root.map bv).toArray 28 (0, 0)) * R)))) := h
  exact (h.perm (show _ = pts b (.cells (root.map bv).toArray 28 (0, 0)) * (pts p (.cells (tcells root 0 g a).toArray 73 (0, 0)) * (omap g [] * (omap a [] * R))) by ac_rfl)).drop
theorem Current_spec (hr : root.length = 32) {p : Nat} {tn nm : Bs} (ht : isName tn = true) (hn : isName nm = true) (lt : tn.length ≤ 100) (ln : nm.length ≤ 100) (h : sat E w H) {R1 R2 : HP}
    [Has H p (.cells (tcells root n g a).toArray 73 (0, 0))] [OwnM H g [] R1] [OwnM H a [] R2] (k : ∀ w', sat E w' H → K (.tuple #[.int .i64 1, .int .i64 0]) w') :
    Calls prog 31 #[.pointer (some ⟨p, 0, none⟩), tv tn, tv nm] w (Ret K) := by
  refine c31 ?_
  unfold B31
  simp only [↓o_nil, ↓o_field, ↓o_add, ↓o_sub, ↓o_mul, ↓o_lss, ↓o_leq, ↓o_gtr, ↓o_geq, ↓o_not, ↓o_pick, ↓o_eqInt, ↓o_neInt, ↓o_eqBool, ↓o_neBool, ↓o_eqPtr, ↓o_nePtr, ↓o_eqPtr', ↓o_eqSl, ↓o_neSl, ↓o_eqStr, ↓o_neStr, ↓o_len, ↓o_lenS, ↓o_min, ↓o_max, ↓o_extract, ↓o_convInt, ↓cd_true, ↓cd_false, ↓gate_tt, ↓gate_ff, ↓gate_tf, ↓gate_ft, ↓gate_undef, ↓o_bind, ↓stay_v, ↓pop_cons, ↓fin_nil, Option.isNone_none, Option.isNone_some, Bool.not_true, Bool.not_false, Nat.zero_add, decide_true, decide_false, if_true, if_false, Bool.false_eq_true, ↓reduceIte]
  refine IsName_spec h (by omega) fun w h => ?_
  rw [ht]
  simp only [↓o_nil, ↓o_field, ↓o_add, ↓o_sub, ↓o_mul, ↓o_lss, ↓o_leq, ↓o_gtr, ↓o_geq, ↓o_not, ↓o_pick, ↓o_eqInt, ↓o_neInt, ↓o_eqBool, ↓o_neBool, ↓o_eqPtr, ↓o_nePtr, ↓o_eqPtr', ↓o_eqSl, ↓o_neSl, ↓o_eqStr, ↓o_neStr, ↓o_len, ↓o_lenS, ↓o_min, ↓o_max, ↓o_extract, ↓o_convInt, ↓cd_true, ↓cd_false, ↓gate_tt, ↓gate_ff, ↓gate_tf, ↓gate_ft, ↓gate_undef, ↓o_bind, ↓stay_v, ↓pop_cons, ↓fin_nil, Option.isNone_none, Option.isNone_some, Bool.not_true, Bool.not_false, Nat.zero_add, decide_true, decide_false, if_true, if_false, Bool.false_eq_true, ↓reduceIte]
  refine IsName_spec h (by omega) fun w h => ?_
  rw [hn]
  simp only [↓o_nil, ↓o_field, ↓o_add, ↓o_sub, ↓o_mul, ↓o_lss, ↓o_leq, ↓o_gtr, ↓o_geq, ↓o_not, ↓o_pick, ↓o_eqInt, ↓o_neInt, ↓o_eqBool, ↓o_neBool, ↓o_eqPtr, ↓o_nePtr, ↓o_eqPtr', ↓o_eqSl, ↓o_neSl, ↓o_eqStr, ↓o_neStr, ↓o_len, ↓o_lenS, ↓o_min, ↓o_max, ↓o_extract, ↓o_convInt, ↓cd_true, ↓cd_false, ↓gate_tt, ↓gate_ff, ↓gate_tf, ↓gate_ft, ↓gate_undef, ↓o_bind, ↓stay_v, ↓pop_cons, ↓fin_nil, Option.isNone_none, Option.isNone_some, Bool.not_true, Bool.not_false, Nat.zero_add, decide_true, decide_false, if_true, if_false, Bool.false_eq_true, ↓reduceIte]
  refine ld_in (b := p) (v := .map (some g)) h (tc_g hr) ?_
  refine look0_ld (b := g) h (kd := .string) (by kernel_rfl) (fun b w => by kernel_rfl) ?_
  try simp only [↓o_nil, ↓o_field, ↓o_add, ↓o_sub, ↓o_mul, ↓o_lss, ↓o_leq, ↓o_gtr, ↓o_geq, ↓o_not, ↓o_pick, ↓o_eqInt, ↓o_neInt, ↓o_eqBool, ↓o_neBool, ↓o_eqPtr, ↓o_nePtr, ↓o_eqPtr', ↓o_eqSl, ↓o_neSl, ↓o_eqStr, ↓o_neStr, ↓o_len, ↓o_lenS, ↓o_min, ↓o_max, ↓o_extract, ↓o_convInt, ↓cd_true, ↓cd_false, ↓gate_tt, ↓gate_ff, ↓gate_tf, ↓gate_ft, ↓gate_undef, ↓o_bind, ↓stay_v, ↓pop_cons, ↓fin_nil, Option.isNone_none, Option.isNone_some, Bool.not_true, Bool.not_false, Nat.zero_add, decide_true, decide_false, if_true, if_false, Bool.false_eq_true, ↓reduceIte]
  refine ld_in (b := p) (v := .map (some a)) h (tc_a hr) ?_
  refine pvv_of (v := .agg #[tv tn, tv nm]) (fun w => by kernel_rfl) ?_
  obtain ⟨fs, hfs⟩ : ∃ fs, prog.underlying 114 = some (.struct fs) := ⟨prog.fieldsOf 114, by kernel_rfl⟩
  refine look0_ld (b := a) h hfs (fun b w => by kernel_rfl) ?_
  try simp only [↓o_nil, ↓o_field, ↓o_add, ↓o_sub, ↓o_mul, ↓o_lss, ↓o_leq, ↓o_gtr, ↓o_geq, ↓o_not, ↓o_pick, ↓o_eqInt, ↓o_neInt, ↓o_eqBool, ↓o_neBool, ↓o_eqPtr, ↓o_nePtr, ↓o_eqPtr', ↓o_eqSl, ↓o_neSl, ↓o_eqStr, ↓o_neStr, ↓o_len, ↓o_lenS, ↓o_min, ↓o_max, ↓o_extract, ↓o_convInt, ↓cd_true, ↓cd_false, ↓gate_tt, ↓gate_ff, ↓gate_tf, ↓gate_ft, ↓gate_undef, ↓o_bind, ↓stay_v, ↓pop_cons, ↓fin_nil, Option.isNone_none, Option.isNone_some, Bool.not_true, Bool.not_false, Nat.zero_add, decide_true, decide_false, if_true, if_false, Bool.false_eq_true, ↓reduceIte]
  exact k w h
theorem one_text : number 1 = (numText 1, 0) := rfl
theorem TKey_spec (hr : root.length = 32) {p : Nat} {tn nm : Bs} (ht : isName tn = true) (hn : isName nm = true) (lt : tn.length ≤ 100) (ln : nm.length ≤ 100) (hd : Dbt H) (h : sat E w H) {R1 R2 : HP}
    [Has H p (.cells (tcells root n g a).toArray 73 (0, 0))] [OwnM H g [] R1] [OwnM H a [] R2] (k : ∀ w', sat E w' H → K (.tuple #[.agg ((derive root [tn, nm, numText 1]).1.map bv).toArray, .int .i64 (derive root [tn, nm, numText 1]).2]) w') :
    Calls prog 32 #[.pointer (some ⟨p, 0, none⟩), tv tn, tv nm, .int .i64 1] w (Ret K) := by
  refine c32 ?_
  unfold B32
  refine alloc_sl h fun b0 w h => ?_
  have h : sat E w (pts b0 (.cells (hzeros32.map bv).toArray 28 (0, 0)) * H) := h
  refine Current_spec (p := p) (g := g) (a := a) (n := n) hr ht hn lt ln h fun w h => ?_
  simp only [↓o_nil, ↓o_field, ↓o_add, ↓o_sub, ↓o_mul, ↓o_lss, ↓o_leq, ↓o_gtr, ↓o_geq, ↓o_not, ↓o_pick, ↓o_eqInt, ↓o_neInt, ↓o_eqBool, ↓o_neBool, ↓o_eqPtr, ↓o_nePtr, ↓o_eqPtr', ↓o_eqSl, ↓o_neSl, ↓o_eqStr, ↓o_neStr, ↓o_len, ↓o_lenS, ↓o_min, ↓o_max, ↓o_extract, ↓o_convInt, ↓cd_true, ↓cd_false, ↓gate_tt, ↓gate_ff, ↓gate_tf, ↓gate_ft, ↓gate_undef, ↓o_bind, ↓stay_v, ↓pop_cons, ↓fin_nil, Option.isNone_none, Option.isNone_some, Bool.not_true, Bool.not_false, Nat.zero_add, decide_true, decide_false, if_true, if_false, Bool.false_eq_true, ↓reduceIte]
  simp only [show decide ((0 : Int) = 0) = true from rfl, show decide ((1 : Int) < 1) = false from rfl, ↓o_nil, ↓o_field, ↓o_add, ↓o_sub, ↓o_mul, ↓o_lss, ↓o_leq, ↓o_gtr, ↓o_geq, ↓o_not, ↓o_pick, ↓o_eqInt, ↓o_neInt, ↓o_eqBool, ↓o_neBool, ↓o_eqPtr, ↓o_nePtr, ↓o_eqPtr', ↓o_eqSl, ↓o_neSl, ↓o_eqStr, ↓o_neStr, ↓o_len, ↓o_lenS, ↓o_min, ↓o_max, ↓o_extract, ↓o_convInt, ↓cd_true, ↓cd_false, ↓gate_tt, ↓gate_ff, ↓gate_tf, ↓gate_ft, ↓gate_undef, ↓o_bind, ↓stay_v, ↓pop_cons, ↓fin_nil, Option.isNone_none, Option.isNone_some, Bool.not_true, Bool.not_false, Nat.zero_add, decide_true, decide_false, if_true, if_false, Bool.false_eq_true, ↓reduceIte]
  refine Number_spec h hd.right fun w h => ?_
  rw [one_text]
  unfold nv2
  simp only [↓o_nil, ↓o_field, ↓o_add, ↓o_sub, ↓o_mul, ↓o_lss, ↓o_leq, ↓o_gtr, ↓o_geq, ↓o_not, ↓o_pick, ↓o_eqInt, ↓o_neInt, ↓o_eqBool, ↓o_neBool, ↓o_eqPtr, ↓o_nePtr, ↓o_eqPtr', ↓o_eqSl, ↓o_neSl, ↓o_eqStr, ↓o_neStr, ↓o_len, ↓o_lenS, ↓o_min, ↓o_max, ↓o_extract, ↓o_convInt, ↓cd_true, ↓cd_false, ↓gate_tt, ↓gate_ff, ↓gate_tf, ↓gate_ft, ↓gate_undef, ↓o_bind, ↓stay_v, ↓pop_cons, ↓fin_nil, Option.isNone_none, Option.isNone_some, Bool.not_true, Bool.not_false, Nat.zero_add, decide_true, decide_false, if_true, if_false, Bool.false_eq_true, ↓reduceIte]
  refine ld_part (b := p) h (root.map bv) (by simpa using hr) (tc_root hr) ?_
  generalize numText 1 = v1 at k ⊢
  refine buildSlice_sl (e := 9) (cs := ([tn, nm, v1].map tv).toArray) h (fun w => by kernel_rfl) fun b1 w h => ?_
  refine Derive_spec h hr (ls := [tn, nm, v1]) (rds_block (b := b1) (Nat.le_refl _)) fun w h => ?_
  simp only [↓o_nil, ↓o_field, ↓o_add, ↓o_sub, ↓o_mul, ↓o_lss, ↓o_leq, ↓o_gtr, ↓o_geq, ↓o_not, ↓o_pick, ↓o_eqInt, ↓o_neInt, ↓o_eqBool, ↓o_neBool, ↓o_eqPtr, ↓o_nePtr, ↓o_eqPtr', ↓o_eqSl, ↓o_neSl, ↓o_eqStr, ↓o_neStr, ↓o_len, ↓o_lenS, ↓o_min, ↓o_max, ↓o_extract, ↓o_convInt, ↓cd_true, ↓cd_false, ↓gate_tt, ↓gate_ff, ↓gate_tf, ↓gate_ft, ↓gate_undef, ↓o_bind, ↓stay_v, ↓pop_cons, ↓fin_nil, Option.isNone_none, Option.isNone_some, Bool.not_true, Bool.not_false, Nat.zero_add, decide_true, decide_false, if_true, if_false, Bool.false_eq_true, ↓reduceIte]
  refine hash_ret2 (b := b0) h (derive_length _ _) (ol := hzeros32) rfl fun w h => ?_
  exact k w h.drop.drop
end
end Go.Proofs.YtmnaalpjhkkglaaGreatDoor

/-
  A tree of keys of which one purpose may be turned: its version, its keys, turning, sealing, opening, sealing anew.
-/
set_option linter.all false
set_option maxRecDepth 100000
namespace Go.Proofs.YtmnaalpjhkkglaaGreatDoor
open Go Hold
variable {E : World0} {w : World} {H R : HP} {K : Value → World → Prop}
theorem eq_str (d : Nat) (a b : List UInt8) (w : World) : (Op.equalIn (d + 1) 9 (tv a) (tv b)).run prog w = .ok (decide (a = b)) w := by
  have := run_equalIn_string (P := prog) w d 9 ⟨a.toArray⟩ ⟨b.toArray⟩ ul_9.ul
  rw [beq_lists] at this
  exact this
theorem run_eq2 {t : Nat} {f g : Field} (e : (prog.fieldsOf t).toList = [f, g]) (h1 : (f.name == "_") = false) (h2 : (g.name == "_") = false) (t1 : f.type = 9) (o1 : f.offset = 0) (t2 : g.type = 9) (o2 : g.offset = 1)
    (d : Nat) (a b a' b' : List UInt8) (w : World) : (Op.eqFields (d + 1) #[tv a, tv b] #[tv a', tv b'] (prog.fieldsOf t).toList).run prog w = .ok (decide (a = a') && decide (b = b')) w := by
  rw [e]
  have h9 := run_eqField (P := prog) (w := w) (d := d + 1) (xs := #[tv a, tv b]) (ys := #[tv a', tv b']) (fs := [g]) h1 (a := tv a) (b := tv a') (by rw [t1, o1]; exact run_part1 rfl) (by rw [t1, o1]; exact run_part1 rfl) (by rw [t1]; exact eq_str d _ _ w)
    (run_eqField h2 (a := tv b) (b := tv b') (by rw [t2, o2]; exact run_part1 rfl) (by rw [t2, o2]; exact run_part1 rfl) (by rw [t2]; exact eq_str d _ _ w) run_eqNone)
  rw [h9, Bool.and_true]
theorem flds114 : ∃ f g : Field, (prog.fieldsOf 114).toList = [f, g] ∧ (f.name == "_") = false ∧ (g.name == "_") = false ∧ f.type = 9 ∧ f.offset = 0 ∧ g.type = 9 ∧ g.offset = 1 :=
  ⟨(prog.fieldsOf 114).toList.getD 0 default, (prog.fieldsOf 114).toList.getD 1 default, by kernel_rfl, by kernel_rfl, by kernel_rfl, by kernel_rfl, by kernel_rfl, by kernel_rfl, by kernel_rfl⟩
instance keyok114 : Mk.KeyOk prog 114 K2 where
  find := Mk.find_ask (kd := .struct (prog.fieldsOf 114)) (by kernel_rfl) (fun _ _ => rfl) (fun k k' w => by
    show (Op.equalIn 10000 114 (.agg #[tv k.t, tv k.n]) (.agg #[tv k'.t, tv k'.n])).run prog w = _
    obtain ⟨f, g, e, h1, h2, t1, o1, t2, o2⟩ := flds114
    rw [run_equalIn_struct w 9999 114 _ _ (by kernel_rfl) (by kernel_rfl), run_eq2 e h1 h2 t1 o1 t2 o2 9998]
    congr 1
    rw [Bool.eq_iff_iff]
    obtain ⟨a, b⟩ := k
    obtain ⟨c, d⟩ := k'
    simp)
  check := fun {k b w} => by kernel_rfl
  bits := fun k => by
    show Instr.sameBits (9999 + 1) (.agg #[tv k.t, tv k.n]) (.agg #[tv k.t, tv k.n]) = true
    simp [Instr.sameBits, tv, Mk.beq_arr]
/-- The versions above 1. -/
def atl (k : K2) (v : Nat) : List (K2 × Value) := if v = 1 then [] else [(k, .int .i64 (v : Int))]
theorem atl_look (k : K2) {v : Nat} (hv : 1 ≤ v) : (Mk.lookM (atl k v) k).getD (.int .i64 0) = .int .i64 (if v = 1 then 0 else (v : Int)) := by
  unfold atl
  by_cases h : v = 1
  · simp [h, Mk.lookM, Mk.findM]
  · simp [h, Mk.lookM, Mk.findM]
theorem atl_put (k : K2) {v : Nat} (hv : 1 ≤ v) : Mk.putM (atl k v) k (.int .i64 ((v + 1 : Nat) : Int)) = atl k (v + 1) := by
  unfold atl
  rw [if_neg (show ¬ v + 1 = 1 by omega)]
  by_cases h : v = 1
  · simp [h, Mk.putM]
  · simp [h, Mk.putM]
abbrev tV (p : Nat) (root : Bs) (n g a : Nat) (k : K2) (v : Nat) (R : HP) : HP := pts p (.cells (tcells root n g a).toArray 73 (0, 0)) * (Mk.omap g ([] : List (List UInt8 × Value)) * (Mk.omap a (atl k v) * R))
section
variable {root : Bs} {n g a v : Nat} {q : K2}
theorem VNew_spec (hr : root.length = 32) (q : K2) (h : sat E w R) (k : ∀ p g a w', sat E w' (tV p root 0 g a q 1 R) → K (.pointer (some ⟨p, 0, none⟩)) w') : Calls prog 6 #[.agg (root.map bv).toArray] w (Ret K) := by
  refine c6 ?_
  unfold B6
  refine box_sl h fun b w h => ?_
  have h : sat E w (pts b (.cells (root.map bv).toArray 28 (0, 0)) * R) := h
  refine ld_agg (b := b) h (by simpa using hr) ?_
  refine Mk.make_map (List UInt8) h fun g w h => ?_
  refine Mk.make_map K2 h fun a w h => ?_
  have e : ∀ {K : Value → World → Prop}, K (.agg (tcells root 0 g a).toArray) w → pvv prog (Instr.build 73 #[(0, .agg (root.map bv).toArray), (2, .map (some g)), (3, .map (some a))]) w K := fun {K} k => by
    obtain ⟨f, rfl⟩ := fn32 hr
    exact pvv_of (fun w => by kernel_rfl) k
  refine e ?_
  refine box_sl h fun p w h => k p g a w ?_
  have h : sat E w (pts p (.cells (tcells root 0 g a).toArray 73 (0, 0)) * (Mk.omap a ([] : List (K2 × Value)) * (Mk.omap g ([] : List (List UInt8 × Value)) * (pts b (.cells (root.map bv).toArray 28 (0, 0)) * R)))) := h
  exact (h.perm (show _ = pts b (.cells (root.map bv).toArray 28 (0, 0)) * (pts p (.cells (tcells root 0 g a).toArray 73 (0, 0)) * (Mk.omap g ([] : List (List UInt8 × Value)) * (Mk.omap a ([] : List (K2 × Value)) * R))) by ac_rfl)).drop
theorem VCurrent_spec (hr : root.length = 32) {p : Nat} (ht : isName q.t = true) (hn : isName q.n = true) (lt : q.t.length ≤ 100) (ln : q.n.length ≤ 100) (hv : 1 ≤ v) (h : sat E w (tV p root n g a q v R))
    (k : ∀ w', sat E w' (tV p root n g a q v R) → K (.tuple #[.int .i64 (v : Int), .int .i64 0]) w') : Calls prog 31 #[.pointer (some ⟨p, 0, none⟩), tv q.t, tv q.n] w (Ret K) := by
  refine c31 ?_
  unfold B31
  simp only [↓o_nil, ↓o_field, ↓o_add, ↓o_sub, ↓o_mul, ↓o_lss, ↓o_leq, ↓o_gtr, ↓o_geq, ↓o_not, ↓o_pick, ↓o_eqInt, ↓o_neInt, ↓o_eqBool, ↓o_neBool, ↓o_eqPtr, ↓o_nePtr, ↓o_eqPtr', ↓o_eqSl, ↓o_neSl, ↓o_eqStr, ↓o_neStr, ↓o_len, ↓o_lenS, ↓o_min, ↓o_max, ↓o_extract, ↓o_convInt, ↓cd_true, ↓cd_false, ↓gate_tt, ↓gate_ff, ↓gate_tf, ↓gate_ft, ↓gate_undef, ↓o_bind, ↓stay_v, ↓pop_cons, ↓fin_nil, Option.isNone_none, Option.isNone_some, Bool.not_true, Bool.not_false, Nat.zero_add, decide_true, decide_false, if_true, if_false, Bool.false_eq_true, ↓reduceIte]
  refine IsName_spec h (by omega) fun w h => ?_
  rw [ht]
  simp only [↓o_nil, ↓o_field, ↓o_add, ↓o_sub, ↓o_mul, ↓o_lss, ↓o_leq, ↓o_gtr, ↓o_geq, ↓o_not, ↓o_pick, ↓o_eqInt, ↓o_neInt, ↓o_eqBool, ↓o_neBool, ↓o_eqPtr, ↓o_nePtr, ↓o_eqPtr', ↓o_eqSl, ↓o_neSl, ↓o_eqStr, ↓o_neStr, ↓o_len, ↓o_lenS, ↓o_min, ↓o_max, ↓o_extract, ↓o_convInt, ↓cd_true, ↓cd_false, ↓gate_tt, ↓gate_ff, ↓gate_tf, ↓gate_ft, ↓gate_undef, ↓o_bind, ↓stay_v, ↓pop_cons, ↓fin_nil, Option.isNone_none, Option.isNone_some, Bool.not_true, Bool.not_false, Nat.zero_add, decide_true, decide_false, if_true, if_false, Bool.false_eq_true, ↓reduceIte]
  refine IsName_spec h (by omega) fun w h => ?_
  rw [hn]
  simp only [↓o_nil, ↓o_field, ↓o_add, ↓o_sub, ↓o_mul, ↓o_lss, ↓o_leq, ↓o_gtr, ↓o_geq, ↓o_not, ↓o_pick, ↓o_eqInt, ↓o_neInt, ↓o_eqBool, ↓o_neBool, ↓o_eqPtr, ↓o_nePtr, ↓o_eqPtr', ↓o_eqSl, ↓o_neSl, ↓o_eqStr, ↓o_neStr, ↓o_len, ↓o_lenS, ↓o_min, ↓o_max, ↓o_extract, ↓o_convInt, ↓cd_true, ↓cd_false, ↓gate_tt, ↓gate_ff, ↓gate_tf, ↓gate_ft, ↓gate_undef, ↓o_bind, ↓stay_v, ↓pop_cons, ↓fin_nil, Option.isNone_none, Option.isNone_some, Bool.not_true, Bool.not_false, Nat.zero_add, decide_true, decide_false, if_true, if_false, Bool.false_eq_true, ↓reduceIte]
  refine ld_in (b := p) (v := .map (some g)) h (tc_g hr) ?_
  refine Mk.look1_ld (b := g) (l := ([] : List (List UInt8 × Value))) (k := q.t) h ?_
  simp only [show (Mk.lookM ([] : List (List UInt8 × Value)) q.t) = none from rfl, Option.getD_none, ↓o_nil, ↓o_field, ↓o_add, ↓o_sub, ↓o_mul, ↓o_lss, ↓o_leq, ↓o_gtr, ↓o_geq, ↓o_not, ↓o_pick, ↓o_eqInt, ↓o_neInt, ↓o_eqBool, ↓o_neBool, ↓o_eqPtr, ↓o_nePtr, ↓o_eqPtr', ↓o_eqSl, ↓o_neSl, ↓o_eqStr, ↓o_neStr, ↓o_len, ↓o_lenS, ↓o_min, ↓o_max, ↓o_extract, ↓o_convInt, ↓cd_true, ↓cd_false, ↓gate_tt, ↓gate_ff, ↓gate_tf, ↓gate_ft, ↓gate_undef, ↓o_bind, ↓stay_v, ↓pop_cons, ↓fin_nil, Option.isNone_none, Option.isNone_some, Bool.not_true, Bool.not_false, Nat.zero_add, decide_true, decide_false, if_true, if_false, Bool.false_eq_true, ↓reduceIte]
  refine ld_in (b := p) (v := .map (some a)) h (tc_a hr) ?_
  refine pvv_of (v := Mk.ke q) (fun w => by kernel_rfl) ?_
  refine Mk.look1_ld (b := a) (l := atl q v) (k := q) h ?_
  rw [atl_look q hv]
  simp only [↓o_nil, ↓o_field, ↓o_add, ↓o_sub, ↓o_mul, ↓o_lss, ↓o_leq, ↓o_gtr, ↓o_geq, ↓o_not, ↓o_pick, ↓o_eqInt, ↓o_neInt, ↓o_eqBool, ↓o_neBool, ↓o_eqPtr, ↓o_nePtr, ↓o_eqPtr', ↓o_eqSl, ↓o_neSl, ↓o_eqStr, ↓o_neStr, ↓o_len, ↓o_lenS, ↓o_min, ↓o_max, ↓o_extract, ↓o_convInt, ↓cd_true, ↓cd_false, ↓gate_tt, ↓gate_ff, ↓gate_tf, ↓gate_ft, ↓gate_undef, ↓o_bind, ↓stay_v, ↓pop_cons, ↓fin_nil, Option.isNone_none, Option.isNone_some, Bool.not_true, Bool.not_false, Nat.zero_add, decide_true, decide_false, if_true, if_false, Bool.false_eq_true, ↓reduceIte]
  have e : max (if v = 1 then (0 : Int) else (v : Int)) 1 = (v : Int) := by split <;> omega
  rw [e]
  exact k w h
theorem VRotate_spec (hr : root.length = 32) {p : Nat} (ht : isName q.t = true) (hn : isName q.n = true) (lt : q.t.length ≤ 100) (ln : q.n.length ≤ 100) (hv : 1 ≤ v) (hv2 : v ≤ 16) (h : sat E w (tV p root n g a q v R))
    (k : ∀ (x : Value) (v' : Nat) w', v ≤ v' → v' ≤ 16 → sat E w' (tV p root n g a q v' R) → K x w') : Calls prog 19 #[.pointer (some ⟨p, 0, none⟩), tv q.t, tv q.n] w (Ret K) := by
  refine c19 ?_
  unfold B19
  refine VCurrent_spec hr ht hn lt ln hv h fun w h => ?_
  simp only [show decide ((0 : Int) = 0) = true from rfl, ↓o_nil, ↓o_field, ↓o_add, ↓o_sub, ↓o_mul, ↓o_lss, ↓o_leq, ↓o_gtr, ↓o_geq, ↓o_not, ↓o_pick, ↓o_eqInt, ↓o_neInt, ↓o_eqBool, ↓o_neBool, ↓o_eqPtr, ↓o_nePtr, ↓o_eqPtr', ↓o_eqSl, ↓o_neSl, ↓o_eqStr, ↓o_neStr, ↓o_len, ↓o_lenS, ↓o_min, ↓o_max, ↓o_extract, ↓o_convInt, ↓cd_true, ↓cd_false, ↓gate_tt, ↓gate_ff, ↓gate_tf, ↓gate_ft, ↓gate_undef, ↓o_bind, ↓stay_v, ↓pop_cons, ↓fin_nil, Option.isNone_none, Option.isNone_some, Bool.not_true, Bool.not_false, Nat.zero_add, decide_true, decide_false, if_true, if_false, Bool.false_eq_true, ↓reduceIte]
  by_cases h16 : v = 16
  · simp only [decide_eq_true (show (16 : Int) ≤ (v : Int) by omega), ↓o_nil, ↓o_field, ↓o_add, ↓o_sub, ↓o_mul, ↓o_lss, ↓o_leq, ↓o_gtr, ↓o_geq, ↓o_not, ↓o_pick, ↓o_eqInt, ↓o_neInt, ↓o_eqBool, ↓o_neBool, ↓o_eqPtr, ↓o_nePtr, ↓o_eqPtr', ↓o_eqSl, ↓o_neSl, ↓o_eqStr, ↓o_neStr, ↓o_len, ↓o_lenS, ↓o_min, ↓o_max, ↓o_extract, ↓o_convInt, ↓cd_true, ↓cd_false, ↓gate_tt, ↓gate_ff, ↓gate_tf, ↓gate_ft, ↓gate_undef, ↓o_bind, ↓stay_v, ↓pop_cons, ↓fin_nil, Option.isNone_none, Option.isNone_some, Bool.not_true, Bool.not_false, Nat.zero_add, decide_true, decide_false, if_true, if_false, Bool.false_eq_true, ↓reduceIte]
    exact k _ v w (Nat.le_refl v) hv2 h
  simp only [decide_eq_false (show ¬ (16 : Int) ≤ (v : Int) by omega), ↓o_nil, ↓o_field, ↓o_add, ↓o_sub, ↓o_mul, ↓o_lss, ↓o_leq, ↓o_gtr, ↓o_geq, ↓o_not, ↓o_pick, ↓o_eqInt, ↓o_neInt, ↓o_eqBool, ↓o_neBool, ↓o_eqPtr, ↓o_nePtr, ↓o_eqPtr', ↓o_eqSl, ↓o_neSl, ↓o_eqStr, ↓o_neStr, ↓o_len, ↓o_lenS, ↓o_min, ↓o_max, ↓o_extract, ↓o_convInt, ↓cd_true, ↓cd_false, ↓gate_tt, ↓gate_ff, ↓gate_tf, ↓gate_ft, ↓gate_undef, ↓o_bind, ↓stay_v, ↓pop_cons, ↓fin_nil, Option.isNone_none, Option.isNone_some, Bool.not_true, Bool.not_false, Nat.zero_add, decide_true, decide_false, if_true, if_false, Bool.false_eq_true, ↓reduceIte]
  have go : ∀ {w}, sat E w (tV p root n g a q v R) → (pvv prog (Instr.build 114 #[(0, tv q.t), (1, tv q.n)]) w fun t_19 w => efu prog (Instr.mapUpdate 71 (.map (some a)) t_19 (.int .i64 (IntKind.i64.wrap ((v : Int) + 1)))) w fun _ w => K (.tuple #[.int .i64 (IntKind.i64.wrap ((v : Int) + 1)), .int .i64 0]) w) := fun {w} h => by
    refine pvv_of (v := Mk.ke q) (fun w => by kernel_rfl) ?_
    rw [i64_of (by omega) (by omega), show (v : Int) + 1 = ((v + 1 : Nat) : Int) by omega]
    refine Mk.update_sl (b := a) (l := atl q v) (k := q) h fun w h => ?_
    rw [atl_put q hv] at h
    exact k _ (v + 1) w (by omega) (by omega) (h.perm (by unfold tV; ac_rfl))
  by_cases h1 : v = 1
  · simp only [decide_eq_true (show (v : Int) = 1 by omega), ↓o_nil, ↓o_field, ↓o_add, ↓o_sub, ↓o_mul, ↓o_lss, ↓o_leq, ↓o_gtr, ↓o_geq, ↓o_not, ↓o_pick, ↓o_eqInt, ↓o_neInt, ↓o_eqBool, ↓o_neBool, ↓o_eqPtr, ↓o_nePtr, ↓o_eqPtr', ↓o_eqSl, ↓o_neSl, ↓o_eqStr, ↓o_neStr, ↓o_len, ↓o_lenS, ↓o_min, ↓o_max, ↓o_extract, ↓o_convInt, ↓cd_true, ↓cd_false, ↓gate_tt, ↓gate_ff, ↓gate_tf, ↓gate_ft, ↓gate_undef, ↓o_bind, ↓stay_v, ↓pop_cons, ↓fin_nil, Option.isNone_none, Option.isNone_some, Bool.not_true, Bool.not_false, Nat.zero_add, decide_true, decide_false, if_true, if_false, Bool.false_eq_true, ↓reduceIte]
    refine ld_in (b := p) (v := .map (some a)) h (tc_a hr) ?_
    refine Mk.len_ld (b := a) (l := atl q v) h ?_
    have hl : (atl q v).length = 0 := by unfold atl; rw [if_pos h1]; rfl
    rw [hl]
    simp only [show decide ((16 : Int) ≤ ((0 : Nat) : Int)) = false from rfl, ↓o_nil, ↓o_field, ↓o_add, ↓o_sub, ↓o_mul, ↓o_lss, ↓o_leq, ↓o_gtr, ↓o_geq, ↓o_not, ↓o_pick, ↓o_eqInt, ↓o_neInt, ↓o_eqBool, ↓o_neBool, ↓o_eqPtr, ↓o_nePtr, ↓o_eqPtr', ↓o_eqSl, ↓o_neSl, ↓o_eqStr, ↓o_neStr, ↓o_len, ↓o_lenS, ↓o_min, ↓o_max, ↓o_extract, ↓o_convInt, ↓cd_true, ↓cd_false, ↓gate_tt, ↓gate_ff, ↓gate_tf, ↓gate_ft, ↓gate_undef, ↓o_bind, ↓stay_v, ↓pop_cons, ↓fin_nil, Option.isNone_none, Option.isNone_some, Bool.not_true, Bool.not_false, Nat.zero_add, decide_true, decide_false, if_true, if_false, Bool.false_eq_true, ↓reduceIte]
    refine ld_in (b := p) (v := .map (some a)) h (tc_a hr) ?_
    have := go h
    try simp only [↓o_nil, ↓o_field, ↓o_add, ↓o_sub, ↓o_mul, ↓o_lss, ↓o_leq, ↓o_gtr, ↓o_geq, ↓o_not, ↓o_pick, ↓o_eqInt, ↓o_neInt, ↓o_eqBool, ↓o_neBool, ↓o_eqPtr, ↓o_nePtr, ↓o_eqPtr', ↓o_eqSl, ↓o_neSl, ↓o_eqStr, ↓o_neStr, ↓o_len, ↓o_lenS, ↓o_min, ↓o_max, ↓o_extract, ↓o_convInt, ↓cd_true, ↓cd_false, ↓gate_tt, ↓gate_ff, ↓gate_tf, ↓gate_ft, ↓gate_undef, ↓o_bind, ↓stay_v, ↓pop_cons, ↓fin_nil, Option.isNone_none, Option.isNone_some, Bool.not_true, Bool.not_false, Nat.zero_add, decide_true, decide_false, if_true, if_false, Bool.false_eq_true, ↓reduceIte] at this
    exact this
  · simp only [decide_eq_false (show ¬ (v : Int) = 1 by omega), ↓o_nil, ↓o_field, ↓o_add, ↓o_sub, ↓o_mul, ↓o_lss, ↓o_leq, ↓o_gtr, ↓o_geq, ↓o_not, ↓o_pick, ↓o_eqInt, ↓o_neInt, ↓o_eqBool, ↓o_neBool, ↓o_eqPtr, ↓o_nePtr, ↓o_eqPtr', ↓o_eqSl, ↓o_neSl, ↓o_eqStr, ↓o_neStr, ↓o_len, ↓o_lenS, ↓o_min, ↓o_max, ↓o_extract, ↓o_convInt, ↓cd_true, ↓cd_false, ↓gate_tt, ↓gate_ff, ↓gate_tf, ↓gate_ft, ↓gate_undef, ↓o_bind, ↓stay_v, ↓pop_cons, ↓fin_nil, Option.isNone_none, Option.isNone_some, Bool.not_true, Bool.not_false, Nat.zero_add, decide_true, decide_false, if_true, if_false, Bool.false_eq_true, ↓reduceIte]
    refine ld_in (b := p) (v := .map (some a)) h (tc_a hr) ?_
    have := go h
    try simp only [↓o_nil, ↓o_field, ↓o_add, ↓o_sub, ↓o_mul, ↓o_lss, ↓o_leq, ↓o_gtr, ↓o_geq, ↓o_not, ↓o_pick, ↓o_eqInt, ↓o_neInt, ↓o_eqBool, ↓o_neBool, ↓o_eqPtr, ↓o_nePtr, ↓o_eqPtr', ↓o_eqSl, ↓o_neSl, ↓o_eqStr, ↓o_neStr, ↓o_len, ↓o_lenS, ↓o_min, ↓o_max, ↓o_extract, ↓o_convInt, ↓cd_true, ↓cd_false, ↓gate_tt, ↓gate_ff, ↓gate_tf, ↓gate_ft, ↓gate_undef, ↓o_bind, ↓stay_v, ↓pop_cons, ↓fin_nil, Option.isNone_none, Option.isNone_some, Bool.not_true, Bool.not_false, Nat.zero_add, decide_true, decide_false, if_true, if_false, Bool.false_eq_true, ↓reduceIte] at this
    exact this
end
end Go.Proofs.YtmnaalpjhkkglaaGreatDoor

/-
  A tree of keys whose one purpose was turned: its keys, sealing, opening, sealing anew.
-/
set_option linter.all false
set_option maxRecDepth 100000
namespace Go.Proofs.YtmnaalpjhkkglaaGreatDoor
open Go Hold
variable {E : World0} {w : World} {H R : HP} {K : Value → World → Prop}
/-- The purpose. -/
def qR : K2 := ⟨[116], [114, 111, 119, 115]⟩
theorem qR_ok : isName qR.t = true ∧ isName qR.n = true ∧ qR.t.length ≤ 100 ∧ qR.n.length ≤ 100 := by decide
def keyR (root : Bs) (u : Nat) : Bs := (derive root [qR.t, qR.n, numText u]).1
theorem keyR_length (root : Bs) (u : Nat) : (keyR root u).length = 32 := derive_length _ _
theorem drv_err (root : Bs) {u : Nat} (h1 : 1 ≤ u) (h2 : u ≤ 16) : (derive root [qR.t, qR.n, numText u]).2 = 0 := by
  have hk : (key [qR.t, qR.n, numText u]).2 = 0 := by
    by_cases h : u = 16
    · subst h
      have e : numText 16 = [99, 49, 48] := by
        unfold numText
        rw [hexs_pos (by decide), hexs_small (by decide) (by decide)]
        rfl
      rw [e]
      decide
    · have e : numText u = [98, dig u] := by
        unfold numText
        rw [hexs_small (by omega) (by omega)]
        rfl
      rw [e]
      have : ∀ u, u < 16 → (key [qR.t, qR.n, [98, dig u]]).2 = 0 := by decide
      exact this u (by omega)
  unfold derive
  rw [if_pos hk]
theorem num_text {u : Nat} (h2 : u ≤ 16) : number (u : Int) = (numText u, 0) := by
  unfold number
  rw [if_neg (by omega), Int.toNat_natCast]
section
variable {root : Bs} {n g a v : Nat}
theorem VKey_spec (hr : root.length = 32) {p u : Nat} (hu1 : 1 ≤ u) (huv : u ≤ v) (hv2 : v ≤ 16) (hd : Dbt R) (h : sat E w (tV p root n g a qR v R))
    (k : ∀ w', sat E w' (tV p root n g a qR v R) → K (.tuple #[.agg ((keyR root u).map bv).toArray, .int .i64 0]) w') :
    Calls prog 32 #[.pointer (some ⟨p, 0, none⟩), tv qR.t, tv qR.n, .int .i64 (u : Int)] w (Ret K) := by
  obtain ⟨t0, t1, t2, t3⟩ := qR_ok
  refine c32 ?_
  unfold B32
  refine alloc_sl h fun b0 w h => ?_
  have h : sat E w (tV p root n g a qR v (pts b0 (.cells (hzeros32.map bv).toArray 28 (0, 0)) * R)) := h.perm (show _ = pts b0 (.cells (hzeros32.map bv).toArray 28 (0, 0)) * tV p root n g a qR v R by rfl) |>.perm (by unfold tV; ac_rfl)
  refine VCurrent_spec hr t0 t1 t2 t3 (by omega) h fun w h => ?_
  simp only [↓o_nil, ↓o_field, ↓o_add, ↓o_sub, ↓o_mul, ↓o_lss, ↓o_leq, ↓o_gtr, ↓o_geq, ↓o_not, ↓o_pick, ↓o_eqInt, ↓o_neInt, ↓o_eqBool, ↓o_neBool, ↓o_eqPtr, ↓o_nePtr, ↓o_eqPtr', ↓o_eqSl, ↓o_neSl, ↓o_eqStr, ↓o_neStr, ↓o_len, ↓o_lenS, ↓o_min, ↓o_max, ↓o_extract, ↓o_convInt, ↓cd_true, ↓cd_false, ↓gate_tt, ↓gate_ff, ↓gate_tf, ↓gate_ft, ↓gate_undef, ↓o_bind, ↓stay_v, ↓pop_cons, ↓fin_nil, Option.isNone_none, Option.isNone_some, Bool.not_true, Bool.not_false, Nat.zero_add, decide_true, decide_false, if_true, if_false, Bool.false_eq_true, ↓reduceIte]
  simp only [show decide ((0 : Int) = 0) = true from rfl, decide_eq_false (show ¬ ((u : Nat) : Int) < 1 by omega), decide_eq_false (show ¬ ((v : Nat) : Int) < (u : Int) by omega), ↓o_nil, ↓o_field, ↓o_add, ↓o_sub, ↓o_mul, ↓o_lss, ↓o_leq, ↓o_gtr, ↓o_geq, ↓o_not, ↓o_pick, ↓o_eqInt, ↓o_neInt, ↓o_eqBool, ↓o_neBool, ↓o_eqPtr, ↓o_nePtr, ↓o_eqPtr', ↓o_eqSl, ↓o_neSl, ↓o_eqStr, ↓o_neStr, ↓o_len, ↓o_lenS, ↓o_min, ↓o_max, ↓o_extract, ↓o_convInt, ↓cd_true, ↓cd_false, ↓gate_tt, ↓gate_ff, ↓gate_tf, ↓gate_ft, ↓gate_undef, ↓o_bind, ↓stay_v, ↓pop_cons, ↓fin_nil, Option.isNone_none, Option.isNone_some, Bool.not_true, Bool.not_false, Nat.zero_add, decide_true, decide_false, if_true, if_false, Bool.false_eq_true, ↓reduceIte]
  refine Number_spec h hd.right.right.right.right fun w h => ?_
  rw [num_text (by omega)]
  unfold nv2
  simp only [↓o_nil, ↓o_field, ↓o_add, ↓o_sub, ↓o_mul, ↓o_lss, ↓o_leq, ↓o_gtr, ↓o_geq, ↓o_not, ↓o_pick, ↓o_eqInt, ↓o_neInt, ↓o_eqBool, ↓o_neBool, ↓o_eqPtr, ↓o_nePtr, ↓o_eqPtr', ↓o_eqSl, ↓o_neSl, ↓o_eqStr, ↓o_neStr, ↓o_len, ↓o_lenS, ↓o_min, ↓o_max, ↓o_extract, ↓o_convInt, ↓cd_true, ↓cd_false, ↓gate_tt, ↓gate_ff, ↓gate_tf, ↓gate_ft, ↓gate_undef, ↓o_bind, ↓stay_v, ↓pop_cons, ↓fin_nil, Option.isNone_none, Option.isNone_some, Bool.not_true, Bool.not_false, Nat.zero_add, decide_true, decide_false, if_true, if_false, Bool.false_eq_true, ↓reduceIte]
  refine ld_part (b := p) h (root.map bv) (by simpa using hr) (tc_root hr) ?_
  have hde := drv_err root hu1 (by omega)
  have hke : keyR root u = (derive root [qR.t, qR.n, numText u]).1 := rfl
  generalize hv1 : numText u = v1 at hde hke ⊢
  refine buildSlice_sl (e := 9) (cs := ([qR.t, qR.n, v1].map tv).toArray) h (fun w => by kernel_rfl) fun b1 w h => ?_
  refine Derive_spec h hr (ls := [qR.t, qR.n, v1]) (rds_block (b := b1) (Nat.le_refl _)) fun w h => ?_
  simp only [↓o_nil, ↓o_field, ↓o_add, ↓o_sub, ↓o_mul, ↓o_lss, ↓o_leq, ↓o_gtr, ↓o_geq, ↓o_not, ↓o_pick, ↓o_eqInt, ↓o_neInt, ↓o_eqBool, ↓o_neBool, ↓o_eqPtr, ↓o_nePtr, ↓o_eqPtr', ↓o_eqSl, ↓o_neSl, ↓o_eqStr, ↓o_neStr, ↓o_len, ↓o_lenS, ↓o_min, ↓o_max, ↓o_extract, ↓o_convInt, ↓cd_true, ↓cd_false, ↓gate_tt, ↓gate_ff, ↓gate_tf, ↓gate_ft, ↓gate_undef, ↓o_bind, ↓stay_v, ↓pop_cons, ↓fin_nil, Option.isNone_none, Option.isNone_some, Bool.not_true, Bool.not_false, Nat.zero_add, decide_true, decide_false, if_true, if_false, Bool.false_eq_true, ↓reduceIte]
  rw [hde]
  have h := h.perm (show _ = pts b0 (.cells (hzeros32.map bv).toArray 28 (0, 0)) * (pts b1 (.cells ([qR.t, qR.n, v1].map tv).toArray 9 (0, 0)) * tV p root n g a qR v R) by unfold tV; ac_rfl)
  refine hash_ret2 (b := b0) h (derive_length _ _) (ol := hzeros32) rfl fun w h => ?_
  rw [← hke]
  exact k w h.drop.drop
theorem VSeal_spec (hr : root.length = 32) (hn : n ≤ 1000000) {p : Nat} (hv1 : 1 ≤ v) (hv2 : v ≤ 16) (hd : Dbt R) {u : Value} {l : Bs} (hl : l.length ≤ 1024)
    (hu : Rds R u l.length (l.map bv)) (h : sat E w (tV p root n g a qR v R))
    (k : ∀ x w', sat E w' (osl 5 1 x (1 + (l.length + 24)) ((UInt8.ofNat v :: sealB (keyR root v) n l).map bv) * tV p root (n + 1) g a qR v R) → K (.tuple #[x, .int .i64 0]) w') :
    Calls prog 11 #[.pointer (some ⟨p, 0, none⟩), tv qR.t, tv qR.n, u] w (Ret K) := by
  obtain ⟨t0, t1, t2, t3⟩ := qR_ok
  refine c11 ?_
  unfold B11
  refine VCurrent_spec hr t0 t1 t2 t3 (by omega) h fun w h => ?_
  simp only [show decide ((0 : Int) = 0) = true from rfl, ↓o_nil, ↓o_field, ↓o_add, ↓o_sub, ↓o_mul, ↓o_lss, ↓o_leq, ↓o_gtr, ↓o_geq, ↓o_not, ↓o_pick, ↓o_eqInt, ↓o_neInt, ↓o_eqBool, ↓o_neBool, ↓o_eqPtr, ↓o_nePtr, ↓o_eqPtr', ↓o_eqSl, ↓o_neSl, ↓o_eqStr, ↓o_neStr, ↓o_len, ↓o_lenS, ↓o_min, ↓o_max, ↓o_extract, ↓o_convInt, ↓cd_true, ↓cd_false, ↓gate_tt, ↓gate_ff, ↓gate_tf, ↓gate_ft, ↓gate_undef, ↓o_bind, ↓stay_v, ↓pop_cons, ↓fin_nil, Option.isNone_none, Option.isNone_some, Bool.not_true, Bool.not_false, Nat.zero_add, decide_true, decide_false, if_true, if_false, Bool.false_eq_true, ↓reduceIte]
  refine VKey_spec hr hv1 (Nat.le_refl v) hv2 hd h fun w h => ?_
  simp only [↓o_nil, ↓o_field, ↓o_add, ↓o_sub, ↓o_mul, ↓o_lss, ↓o_leq, ↓o_gtr, ↓o_geq, ↓o_not, ↓o_pick, ↓o_eqInt, ↓o_neInt, ↓o_eqBool, ↓o_neBool, ↓o_eqPtr, ↓o_nePtr, ↓o_eqPtr', ↓o_eqSl, ↓o_neSl, ↓o_eqStr, ↓o_neStr, ↓o_len, ↓o_lenS, ↓o_min, ↓o_max, ↓o_extract, ↓o_convInt, ↓cd_true, ↓cd_false, ↓gate_tt, ↓gate_ff, ↓gate_tf, ↓gate_ft, ↓gate_undef, ↓o_bind, ↓stay_v, ↓pop_cons, ↓fin_nil, Option.isNone_none, Option.isNone_some, Bool.not_true, Bool.not_false, Nat.zero_add, decide_true, decide_false, if_true, if_false, Bool.false_eq_true, ↓reduceIte]
  have hkl := keyR_length root v
  generalize keyR root v = kk at hkl k ⊢
  refine hash_var h hkl fun kb w h => ?_
  refine dr_sl h fun w h _ => ?_
  try simp only [↓o_nil, ↓o_field, ↓o_add, ↓o_sub, ↓o_mul, ↓o_lss, ↓o_leq, ↓o_gtr, ↓o_geq, ↓o_not, ↓o_pick, ↓o_eqInt, ↓o_neInt, ↓o_eqBool, ↓o_neBool, ↓o_eqPtr, ↓o_nePtr, ↓o_eqPtr', ↓o_eqSl, ↓o_neSl, ↓o_eqStr, ↓o_neStr, ↓o_len, ↓o_lenS, ↓o_min, ↓o_max, ↓o_extract, ↓o_convInt, ↓cd_true, ↓cd_false, ↓gate_tt, ↓gate_ff, ↓gate_tf, ↓gate_ft, ↓gate_undef, ↓o_bind, ↓stay_v, ↓pop_cons, ↓fin_nil, Option.isNone_none, Option.isNone_some, Bool.not_true, Bool.not_false, Nat.zero_add, decide_true, decide_false, if_true, if_false, Bool.false_eq_true, ↓reduceIte]
  refine ld_agg (b := kb) h (by simpa using hkl) ?_
  refine ld_in (b := p) (v := .int .i64 (n : Int)) h (tc_n hr) ?_
  simp only [↓o_nil, ↓o_field, ↓o_add, ↓o_sub, ↓o_mul, ↓o_lss, ↓o_leq, ↓o_gtr, ↓o_geq, ↓o_not, ↓o_pick, ↓o_eqInt, ↓o_neInt, ↓o_eqBool, ↓o_neBool, ↓o_eqPtr, ↓o_nePtr, ↓o_eqPtr', ↓o_eqSl, ↓o_neSl, ↓o_eqStr, ↓o_neStr, ↓o_len, ↓o_lenS, ↓o_min, ↓o_max, ↓o_extract, ↓o_convInt, ↓cd_true, ↓cd_false, ↓gate_tt, ↓gate_ff, ↓gate_tf, ↓gate_ft, ↓gate_undef, ↓o_bind, ↓stay_v, ↓pop_cons, ↓fin_nil, Option.isNone_none, Option.isNone_some, Bool.not_true, Bool.not_false, Nat.zero_add, decide_true, decide_false, if_true, if_false, Bool.false_eq_true, ↓reduceIte]
  have e64 : IntKind.u64.wrap (n : Int) = (n : Int) := by rw [IntKind.wrap_u64]; omega
  rw [e64]
  refine Seal_spec h hkl (n := n) (by omega) hu.right.right.right.right (fun hbig => by omega) fun _ sv w h => ?_
  refine st_in (b := p) (v := .int .i64 (n : Int)) h (tc_n hr) ?_
  simp only [show decide ((0 : Int) = 0) = true from rfl, ↓o_nil, ↓o_field, ↓o_add, ↓o_sub, ↓o_mul, ↓o_lss, ↓o_leq, ↓o_gtr, ↓o_geq, ↓o_not, ↓o_pick, ↓o_eqInt, ↓o_neInt, ↓o_eqBool, ↓o_neBool, ↓o_eqPtr, ↓o_nePtr, ↓o_eqPtr', ↓o_eqSl, ↓o_neSl, ↓o_eqStr, ↓o_neStr, ↓o_len, ↓o_lenS, ↓o_min, ↓o_max, ↓o_extract, ↓o_convInt, ↓cd_true, ↓cd_false, ↓gate_tt, ↓gate_ff, ↓gate_tf, ↓gate_ft, ↓gate_undef, ↓o_bind, ↓stay_v, ↓pop_cons, ↓fin_nil, Option.isNone_none, Option.isNone_some, Bool.not_true, Bool.not_false, Nat.zero_add, decide_true, decide_false, if_true, if_false, Bool.false_eq_true, ↓reduceIte]
  refine ld_in (b := p) (v := .int .i64 (n : Int)) h (tc_n hr) ?_
  simp only [decide_eq_false (show ¬ (1099511627776 : Int) ≤ (n : Int) by omega), ↓o_nil, ↓o_field, ↓o_add, ↓o_sub, ↓o_mul, ↓o_lss, ↓o_leq, ↓o_gtr, ↓o_geq, ↓o_not, ↓o_pick, ↓o_eqInt, ↓o_neInt, ↓o_eqBool, ↓o_neBool, ↓o_eqPtr, ↓o_nePtr, ↓o_eqPtr', ↓o_eqSl, ↓o_neSl, ↓o_eqStr, ↓o_neStr, ↓o_len, ↓o_lenS, ↓o_min, ↓o_max, ↓o_extract, ↓o_convInt, ↓cd_true, ↓cd_false, ↓gate_tt, ↓gate_ff, ↓gate_tf, ↓gate_ft, ↓gate_undef, ↓o_bind, ↓stay_v, ↓pop_cons, ↓fin_nil, Option.isNone_none, Option.isNone_some, Bool.not_true, Bool.not_false, Nat.zero_add, decide_true, decide_false, if_true, if_false, Bool.false_eq_true, ↓reduceIte]
  refine ld_in (b := p) (v := .int .i64 (n : Int)) h (tc_n hr) ?_
  simp only [↓o_nil, ↓o_field, ↓o_add, ↓o_sub, ↓o_mul, ↓o_lss, ↓o_leq, ↓o_gtr, ↓o_geq, ↓o_not, ↓o_pick, ↓o_eqInt, ↓o_neInt, ↓o_eqBool, ↓o_neBool, ↓o_eqPtr, ↓o_nePtr, ↓o_eqPtr', ↓o_eqSl, ↓o_neSl, ↓o_eqStr, ↓o_neStr, ↓o_len, ↓o_lenS, ↓o_min, ↓o_max, ↓o_extract, ↓o_convInt, ↓cd_true, ↓cd_false, ↓gate_tt, ↓gate_ff, ↓gate_tf, ↓gate_ft, ↓gate_undef, ↓o_bind, ↓stay_v, ↓pop_cons, ↓fin_nil, Option.isNone_none, Option.isNone_some, Bool.not_true, Bool.not_false, Nat.zero_add, decide_true, decide_false, if_true, if_false, Bool.false_eq_true, ↓reduceIte]
  rw [i64_of (by omega) (by omega)]
  refine store_sl (b := p) h rfl (by rw [tc_len hr]; decide) fun w h => ?_
  rw [show (n : Int) + 1 = ((n + 1 : Nat) : Int) by omega, tp_n hr] at h
  rw [show IntKind.u8.wrap (v : Int) = ((UInt8.ofNat v).toNat : Int) by rw [IntKind.wrap_u8, UInt8.toNat_ofNat']; omega]
  refine buildSlice_sl (e := 5) (cs := #[bv (UInt8.ofNat v)]) h (fun w => by kernel_rfl) fun tb w h => ?_
  have h := osl_of (n := 1) (sz := 1) (xs := [bv (UInt8.ofNat v)]) h rfl (by omega)
  have hsl := sealB_length kk n l
  have hsr : ∀ {X R' : HP}, Rds (X * (osl 5 1 sv (l.length + 24) ((sealB kk n l).map bv) * R')) sv (l.length + 24) ((sealB kk n l).map bv) := Rds.osl.left.right
  have h := h.perm (show _ = osl 5 1 (.slice (some ⟨tb, 0, none⟩) 1 1) 1 [bv (UInt8.ofNat v)] * (osl 5 1 sv (l.length + 24) ((sealB kk n l).map bv) * (pts kb (.cells (kk.map bv).toArray 28 (0, 0)) * tV p root (n + 1) g a qR v R)) by unfold tV; ac_rfl)
  obtain ⟨sa, sc, rfl, hsc, _, _⟩ := osl_shape (h.perm (star_left_comm _ _ _))
  refine append_sl (v := .slice (some ⟨tb, 0, none⟩) 1 1) h ((sealB kk n l).map bv) (k' := l.length + 24) (by rw [List.length_map, hsl]; omega) (hsr.win h) (bv_one _) (by omega) (by omega) fun bo w h => ?_
  exact k bo w (h.perm (show _ = osl 5 1 (.slice sa (l.length + 24) sc) (l.length + 24) ((sealB kk n l).map bv) * (pts kb (.cells (kk.map bv).toArray 28 (0, 0)) * (osl 5 1 bo (1 + (l.length + 24)) ((UInt8.ofNat v :: sealB kk n l).map bv) * tV p root (n + 1) g a qR v R)) by simp only [List.map_cons, List.singleton_append]; unfold tV; ac_rfl)).drop.drop
theorem VOpen_spec (hr : root.length = 32) (hn : n ≤ 1000000) {p t : Nat} (ht1 : 1 ≤ t) (htv : t ≤ v) (hv2 : v ≤ 16) (hd : Dbt R)
    {u : Value} {q l : Bs} {m : Nat} (hq : q.length ≤ 2000) (hop : openB (keyR root t) q = (l, m, 0))
    (hu : Rds R u (1 + q.length) ((UInt8.ofNat t :: q).map bv)) (h : sat E w (tV p root n g a qR v R))
    (k : ∀ x w', sat E w' (osl 5 1 x l.length (l.map bv) * tV p root n g a qR v R) → K (.tuple #[x, .int .i64 (t : Int), .int .i64 0]) w') :
    Calls prog 12 #[.pointer (some ⟨p, 0, none⟩), tv qR.t, tv qR.n, u] w (Ret K) := by
  obtain ⟨t0, t1, t2, t3⟩ := qR_ok
  refine c12 ?_
  unfold B12
  obtain ⟨ua, uc, rfl, huc, hu, _⟩ := hu.shape (h.drop.drop.drop)
  obtain ⟨ub, uo, _, e, _, hu⟩ := hu.opened (h.drop.drop.drop) (by simp)
  cases e
  refine VCurrent_spec hr t0 t1 t2 t3 (by omega) h fun w h => ?_
  simp only [↓o_nil, ↓o_field, ↓o_add, ↓o_sub, ↓o_mul, ↓o_lss, ↓o_leq, ↓o_gtr, ↓o_geq, ↓o_not, ↓o_pick, ↓o_eqInt, ↓o_neInt, ↓o_eqBool, ↓o_neBool, ↓o_eqPtr, ↓o_nePtr, ↓o_eqPtr', ↓o_eqSl, ↓o_neSl, ↓o_eqStr, ↓o_neStr, ↓o_len, ↓o_lenS, ↓o_min, ↓o_max, ↓o_extract, ↓o_convInt, ↓cd_true, ↓cd_false, ↓gate_tt, ↓gate_ff, ↓gate_tf, ↓gate_ft, ↓gate_undef, ↓o_bind, ↓stay_v, ↓pop_cons, ↓fin_nil, Option.isNone_none, Option.isNone_some, Bool.not_true, Bool.not_false, Nat.zero_add, decide_true, decide_false, if_true, if_false, Bool.false_eq_true, ↓reduceIte]
  unfold jn
  simp only [show decide ((0 : Int) = 0) = true from rfl, decide_eq_false (show ¬ ((1 + q.length : Nat) : Int) = 0 by omega), ↓o_nil, ↓o_field, ↓o_add, ↓o_sub, ↓o_mul, ↓o_lss, ↓o_leq, ↓o_gtr, ↓o_geq, ↓o_not, ↓o_pick, ↓o_eqInt, ↓o_neInt, ↓o_eqBool, ↓o_neBool, ↓o_eqPtr, ↓o_nePtr, ↓o_eqPtr', ↓o_eqSl, ↓o_neSl, ↓o_eqStr, ↓o_neStr, ↓o_len, ↓o_lenS, ↓o_min, ↓o_max, ↓o_extract, ↓o_convInt, ↓cd_true, ↓cd_false, ↓gate_tt, ↓gate_ff, ↓gate_tf, ↓gate_ft, ↓gate_undef, ↓o_bind, ↓stay_v, ↓pop_cons, ↓fin_nil, Option.isNone_none, Option.isNone_some, Bool.not_true, Bool.not_false, Nat.zero_add, decide_true, decide_false, if_true, if_false, Bool.false_eq_true, ↓reduceIte]
  rw [o_index (by omega) (by omega)]
  refine ld_rd h hu.right.right.right 0 rfl (v := bv (UInt8.ofNat t)) rfl ?_
  simp only [bv, ↓o_nil, ↓o_field, ↓o_add, ↓o_sub, ↓o_mul, ↓o_lss, ↓o_leq, ↓o_gtr, ↓o_geq, ↓o_not, ↓o_pick, ↓o_eqInt, ↓o_neInt, ↓o_eqBool, ↓o_neBool, ↓o_eqPtr, ↓o_nePtr, ↓o_eqPtr', ↓o_eqSl, ↓o_neSl, ↓o_eqStr, ↓o_neStr, ↓o_len, ↓o_lenS, ↓o_min, ↓o_max, ↓o_extract, ↓o_convInt, ↓cd_true, ↓cd_false, ↓gate_tt, ↓gate_ff, ↓gate_tf, ↓gate_ft, ↓gate_undef, ↓o_bind, ↓stay_v, ↓pop_cons, ↓fin_nil, Option.isNone_none, Option.isNone_some, Bool.not_true, Bool.not_false, Nat.zero_add, decide_true, decide_false, if_true, if_false, Bool.false_eq_true, ↓reduceIte]
  rw [show IntKind.i64.wrap ((UInt8.ofNat t).toNat : Int) = (t : Int) by rw [UInt8.toNat_ofNat']; rw [i64_of (by omega) (by omega)]; omega]
  refine VKey_spec hr ht1 htv hv2 hd h fun w h => ?_
  simp only [↓o_nil, ↓o_field, ↓o_add, ↓o_sub, ↓o_mul, ↓o_lss, ↓o_leq, ↓o_gtr, ↓o_geq, ↓o_not, ↓o_pick, ↓o_eqInt, ↓o_neInt, ↓o_eqBool, ↓o_neBool, ↓o_eqPtr, ↓o_nePtr, ↓o_eqPtr', ↓o_eqSl, ↓o_neSl, ↓o_eqStr, ↓o_neStr, ↓o_len, ↓o_lenS, ↓o_min, ↓o_max, ↓o_extract, ↓o_convInt, ↓cd_true, ↓cd_false, ↓gate_tt, ↓gate_ff, ↓gate_tf, ↓gate_ft, ↓gate_undef, ↓o_bind, ↓stay_v, ↓pop_cons, ↓fin_nil, Option.isNone_none, Option.isNone_some, Bool.not_true, Bool.not_false, Nat.zero_add, decide_true, decide_false, if_true, if_false, Bool.false_eq_true, ↓reduceIte]
  have hkl := keyR_length root t
  generalize keyR root t = kk at hkl hop ⊢
  refine hash_var h hkl fun kb w h => ?_
  try simp only [↓o_nil, ↓o_field, ↓o_add, ↓o_sub, ↓o_mul, ↓o_lss, ↓o_leq, ↓o_gtr, ↓o_geq, ↓o_not, ↓o_pick, ↓o_eqInt, ↓o_neInt, ↓o_eqBool, ↓o_neBool, ↓o_eqPtr, ↓o_nePtr, ↓o_eqPtr', ↓o_eqSl, ↓o_neSl, ↓o_eqStr, ↓o_neStr, ↓o_len, ↓o_lenS, ↓o_min, ↓o_max, ↓o_extract, ↓o_convInt, ↓cd_true, ↓cd_false, ↓gate_tt, ↓gate_ff, ↓gate_tf, ↓gate_ft, ↓gate_undef, ↓o_bind, ↓stay_v, ↓pop_cons, ↓fin_nil, Option.isNone_none, Option.isNone_some, Bool.not_true, Bool.not_false, Nat.zero_add, decide_true, decide_false, if_true, if_false, Bool.false_eq_true, ↓reduceIte]
  refine dr_sl h fun w h _ => ?_
  rw [o_slice_l (by omega) (by omega), show (1 : Int).toNat = 1 from rfl, show 1 + q.length - 1 = q.length by omega]
  try simp only [↓o_nil, ↓o_field, ↓o_add, ↓o_sub, ↓o_mul, ↓o_lss, ↓o_leq, ↓o_gtr, ↓o_geq, ↓o_not, ↓o_pick, ↓o_eqInt, ↓o_neInt, ↓o_eqBool, ↓o_neBool, ↓o_eqPtr, ↓o_nePtr, ↓o_eqPtr', ↓o_eqSl, ↓o_neSl, ↓o_eqStr, ↓o_neStr, ↓o_len, ↓o_lenS, ↓o_min, ↓o_max, ↓o_extract, ↓o_convInt, ↓cd_true, ↓cd_false, ↓gate_tt, ↓gate_ff, ↓gate_tf, ↓gate_ft, ↓gate_undef, ↓o_bind, ↓stay_v, ↓pop_cons, ↓fin_nil, Option.isNone_none, Option.isNone_some, Bool.not_true, Bool.not_false, Nat.zero_add, decide_true, decide_false, if_true, if_false, Bool.false_eq_true, ↓reduceIte]
  refine ld_agg (b := kb) h (by simpa using hkl) ?_
  have hcut : ∀ {X Y Z V : HP}, Rds (X * (Y * (Z * (V * R)))) (.slice (cutA (some ⟨ub, uo, none⟩) uc 1 1) q.length (uc - 1)) q.length (q.map bv) := fun {X Y Z V} => by
    have h5 : Rds R (.slice (cutA (some ⟨ub, uo, none⟩) uc 1 1) (1 + q.length - 1) (uc - 1)) (1 + q.length - 1) (((UInt8.ofNat t :: q).drop 1).map bv) := Rds.cutB (l := UInt8.ofNat t :: q) hu (by simp [Nat.add_comm]) (lo := 1) (by omega)
    rw [show 1 + q.length - 1 = q.length by omega] at h5
    exact h5.right.right.right.right
  refine Open_spec h hkl (s := q) hcut (by omega) fun pv_ w h => ?_
  rw [hop] at h ⊢
  simp only [show decide ((0 : Int) = 0) = true from rfl, ↓o_nil, ↓o_field, ↓o_add, ↓o_sub, ↓o_mul, ↓o_lss, ↓o_leq, ↓o_gtr, ↓o_geq, ↓o_not, ↓o_pick, ↓o_eqInt, ↓o_neInt, ↓o_eqBool, ↓o_neBool, ↓o_eqPtr, ↓o_nePtr, ↓o_eqPtr', ↓o_eqSl, ↓o_neSl, ↓o_eqStr, ↓o_neStr, ↓o_len, ↓o_lenS, ↓o_min, ↓o_max, ↓o_extract, ↓o_convInt, ↓cd_true, ↓cd_false, ↓gate_tt, ↓gate_ff, ↓gate_tf, ↓gate_ft, ↓gate_undef, ↓o_bind, ↓stay_v, ↓pop_cons, ↓fin_nil, Option.isNone_none, Option.isNone_some, Bool.not_true, Bool.not_false, Nat.zero_add, decide_true, decide_false, if_true, if_false, Bool.false_eq_true, ↓reduceIte]
  exact k pv_ w (h.perm (show _ = pts kb (.cells (kk.map bv).toArray 28 (0, 0)) * (osl 5 1 pv_ l.length (l.map bv) * tV p root n g a qR v R) by unfold tV; ac_rfl)).drop
/-- Sealed anew: by the version of now. -/
theorem Reseal_spec (hr : root.length = 32) (hn : n ≤ 1000000) {p t : Nat} (ht1 : 1 ≤ t) (htv : t ≤ v) (hv2 : v ≤ 16) (hd : Dbt R)
    {u : Value} {l : Bs} {m : Nat} (hm : m ≤ 1000000) (hl : l.length ≤ 1024)
    (hu : Rds R u (1 + (l.length + 24)) ((UInt8.ofNat t :: sealB (keyR root t) m l).map bv)) (h : sat E w (tV p root n g a qR v R))
    (k : ∀ (x b : Value) (m' n' : Nat) w', m' ≤ 1000000 → n ≤ n' → n' ≤ n + 1 → sat E w' (osl 5 1 x (1 + (l.length + 24)) ((UInt8.ofNat v :: sealB (keyR root v) m' l).map bv) * tV p root n' g a qR v R) → K (.tuple #[x, b, .int .i64 0]) w') :
    Calls prog 20 #[.pointer (some ⟨p, 0, none⟩), tv qR.t, tv qR.n, u] w (Ret K) := by
  obtain ⟨t0, t1, t2, t3⟩ := qR_ok
  refine c20 ?_
  unfold B20
  have hop : openB (keyR root t) (sealB (keyR root t) m l) = (l, m, 0) := open_seal (by omega) hl
  have hsl := sealB_length (keyR root t) m l
  refine VOpen_spec hr hn ht1 htv hv2 hd (q := sealB (keyR root t) m l) (by omega) hop (by rw [hsl]; exact hu) h fun x w h => ?_
  simp only [show decide ((0 : Int) = 0) = true from rfl, ↓o_nil, ↓o_field, ↓o_add, ↓o_sub, ↓o_mul, ↓o_lss, ↓o_leq, ↓o_gtr, ↓o_geq, ↓o_not, ↓o_pick, ↓o_eqInt, ↓o_neInt, ↓o_eqBool, ↓o_neBool, ↓o_eqPtr, ↓o_nePtr, ↓o_eqPtr', ↓o_eqSl, ↓o_neSl, ↓o_eqStr, ↓o_neStr, ↓o_len, ↓o_lenS, ↓o_min, ↓o_max, ↓o_extract, ↓o_convInt, ↓cd_true, ↓cd_false, ↓gate_tt, ↓gate_ff, ↓gate_tf, ↓gate_ft, ↓gate_undef, ↓o_bind, ↓stay_v, ↓pop_cons, ↓fin_nil, Option.isNone_none, Option.isNone_some, Bool.not_true, Bool.not_false, Nat.zero_add, decide_true, decide_false, if_true, if_false, Bool.false_eq_true, ↓reduceIte]
  have h := h.perm (show _ = tV p root n g a qR v (osl 5 1 x l.length (l.map bv) * R) by unfold tV; ac_rfl)
  refine VCurrent_spec hr t0 t1 t2 t3 (by omega) h fun w h => ?_
  simp only [↓o_nil, ↓o_field, ↓o_add, ↓o_sub, ↓o_mul, ↓o_lss, ↓o_leq, ↓o_gtr, ↓o_geq, ↓o_not, ↓o_pick, ↓o_eqInt, ↓o_neInt, ↓o_eqBool, ↓o_neBool, ↓o_eqPtr, ↓o_nePtr, ↓o_eqPtr', ↓o_eqSl, ↓o_neSl, ↓o_eqStr, ↓o_neStr, ↓o_len, ↓o_lenS, ↓o_min, ↓o_max, ↓o_extract, ↓o_convInt, ↓cd_true, ↓cd_false, ↓gate_tt, ↓gate_ff, ↓gate_tf, ↓gate_ft, ↓gate_undef, ↓o_bind, ↓stay_v, ↓pop_cons, ↓fin_nil, Option.isNone_none, Option.isNone_some, Bool.not_true, Bool.not_false, Nat.zero_add, decide_true, decide_false, if_true, if_false, Bool.false_eq_true, ↓reduceIte]
  by_cases e : v = t
  · subst e
    simp only [decide_eq_true (show ((v : Nat) : Int) = ((v : Nat) : Int) from rfl), ↓o_nil, ↓o_field, ↓o_add, ↓o_sub, ↓o_mul, ↓o_lss, ↓o_leq, ↓o_gtr, ↓o_geq, ↓o_not, ↓o_pick, ↓o_eqInt, ↓o_neInt, ↓o_eqBool, ↓o_neBool, ↓o_eqPtr, ↓o_nePtr, ↓o_eqPtr', ↓o_eqSl, ↓o_neSl, ↓o_eqStr, ↓o_neStr, ↓o_len, ↓o_lenS, ↓o_min, ↓o_max, ↓o_extract, ↓o_convInt, ↓cd_true, ↓cd_false, ↓gate_tt, ↓gate_ff, ↓gate_tf, ↓gate_ft, ↓gate_undef, ↓o_bind, ↓stay_v, ↓pop_cons, ↓fin_nil, Option.isNone_none, Option.isNone_some, Bool.not_true, Bool.not_false, Nat.zero_add, decide_true, decide_false, if_true, if_false, Bool.false_eq_true, ↓reduceIte]
    refine Clone_spec (l := UInt8.ofNat v :: sealB (keyR root v) m l) h ?_ (by simp; omega) fun y w h => ?_
    · have e3 : (UInt8.ofNat v :: sealB (keyR root v) m l).length = 1 + (l.length + 24) := by simp [hsl]; omega
      rw [e3]
      unfold tV
      exact hu.right.right.right.right
    try simp only [↓o_nil, ↓o_field, ↓o_add, ↓o_sub, ↓o_mul, ↓o_lss, ↓o_leq, ↓o_gtr, ↓o_geq, ↓o_not, ↓o_pick, ↓o_eqInt, ↓o_neInt, ↓o_eqBool, ↓o_neBool, ↓o_eqPtr, ↓o_nePtr, ↓o_eqPtr', ↓o_eqSl, ↓o_neSl, ↓o_eqStr, ↓o_neStr, ↓o_len, ↓o_lenS, ↓o_min, ↓o_max, ↓o_extract, ↓o_convInt, ↓cd_true, ↓cd_false, ↓gate_tt, ↓gate_ff, ↓gate_tf, ↓gate_ft, ↓gate_undef, ↓o_bind, ↓stay_v, ↓pop_cons, ↓fin_nil, Option.isNone_none, Option.isNone_some, Bool.not_true, Bool.not_false, Nat.zero_add, decide_true, decide_false, if_true, if_false, Bool.false_eq_true, ↓reduceIte]
    have e3 : (UInt8.ofNat v :: sealB (keyR root v) m l).length = 1 + (l.length + 24) := by simp [hsl]; omega
    rw [e3] at h
    exact k y _ m n w hm (by omega) (by omega) ((h.perm (show _ = osl 5 1 x l.length (l.map bv) * (osl 5 1 y (1 + (l.length + 24)) ((UInt8.ofNat v :: sealB (keyR root v) m l).map bv) * tV p root n g a qR v R) by unfold tV; ac_rfl)).drop)
  · simp only [decide_eq_false (show ¬ ((v : Nat) : Int) = ((t : Nat) : Int) by omega), ↓o_nil, ↓o_field, ↓o_add, ↓o_sub, ↓o_mul, ↓o_lss, ↓o_leq, ↓o_gtr, ↓o_geq, ↓o_not, ↓o_pick, ↓o_eqInt, ↓o_neInt, ↓o_eqBool, ↓o_neBool, ↓o_eqPtr, ↓o_nePtr, ↓o_eqPtr', ↓o_eqSl, ↓o_neSl, ↓o_eqStr, ↓o_neStr, ↓o_len, ↓o_lenS, ↓o_min, ↓o_max, ↓o_extract, ↓o_convInt, ↓cd_true, ↓cd_false, ↓gate_tt, ↓gate_ff, ↓gate_tf, ↓gate_ft, ↓gate_undef, ↓o_bind, ↓stay_v, ↓pop_cons, ↓fin_nil, Option.isNone_none, Option.isNone_some, Bool.not_true, Bool.not_false, Nat.zero_add, decide_true, decide_false, if_true, if_false, Bool.false_eq_true, ↓reduceIte]
    refine VSeal_spec hr hn (by omega) hv2 hd.right (l := l) hl Rds.osl.left h fun y w h => ?_
    simp only [↓o_nil, ↓o_field, ↓o_add, ↓o_sub, ↓o_mul, ↓o_lss, ↓o_leq, ↓o_gtr, ↓o_geq, ↓o_not, ↓o_pick, ↓o_eqInt, ↓o_neInt, ↓o_eqBool, ↓o_neBool, ↓o_eqPtr, ↓o_nePtr, ↓o_eqPtr', ↓o_eqSl, ↓o_neSl, ↓o_eqStr, ↓o_neStr, ↓o_len, ↓o_lenS, ↓o_min, ↓o_max, ↓o_extract, ↓o_convInt, ↓cd_true, ↓cd_false, ↓gate_tt, ↓gate_ff, ↓gate_tf, ↓gate_ft, ↓gate_undef, ↓o_bind, ↓stay_v, ↓pop_cons, ↓fin_nil, Option.isNone_none, Option.isNone_some, Bool.not_true, Bool.not_false, Nat.zero_add, decide_true, decide_false, if_true, if_false, Bool.false_eq_true, ↓reduceIte]
    exact k y _ n (n + 1) w (by omega) (by omega) (by omega) ((h.perm (show _ = osl 5 1 x l.length (l.map bv) * (osl 5 1 y (1 + (l.length + 24)) ((UInt8.ofNat v :: sealB (keyR root v) n l).map bv) * tV p root (n + 1) g a qR v R) by unfold tV; ac_rfl)).drop)
end
end Go.Proofs.YtmnaalpjhkkglaaGreatDoor

/-
  Hashes compared.
-/
set_option linter.all false
set_option maxRecDepth 10000
namespace Go.Proofs.YtmnaalpjhkkglaaGreatDoor
open Go Hold
variable {E : World0} {w : World} {H R : HP} {K : Value → World → Prop}
theorem or_xor_zero {d x y : UInt8} : (d ||| (x ^^^ y)) = 0 ↔ d = 0 ∧ x = y := by
  rw [UInt8.or_eq_zero_iff, UInt8.xor_eq_zero_iff]
theorem Same_spec (h : sat E w H) {a b : List UInt8} (ha : a.length = 32) (hb : b.length = 32) (k : ∀ w', sat E w' H → K (.bool (decide (a = b))) w') : Calls prog 48 #[.agg (a.map bv).toArray, .agg (b.map bv).toArray] w (Ret K) := by
  refine c48 ?_
  unfold B48
  refine box_sl h fun b1 w h => ?_
  refine box_sl h fun b2 w h => ?_
  have h : sat E w (pts b2 (.cells (b.map bv).toArray 28 (0, 0)) * (pts b1 (.cells (a.map bv).toArray 28 (0, 0)) * H)) := h
  refine lp_nat (fun q σ w => ∃ (i : Nat) (d : UInt8), σ = [bv d, .int .i64 i] ∧ q = 32 - i ∧ i ≤ 32 ∧ (d = 0 ↔ a.take i = b.take i) ∧ sat E w (pts b2 (.cells (b.map bv).toArray 28 (0, 0)) * (pts b1 (.cells (a.map bv).toArray 28 (0, 0)) * H))) 32
    ⟨0, 0, rfl, rfl, by omega, by simp, h⟩ ?_
  clear h
  rintro q σ w again ⟨i, d, rfl, rfl, hi, hd, h⟩ hag
  rw [pop_cons, pop_cons, fin_nil, o_lss]
  refine cd_dec (fun hlt => ?_) (fun hge => ?_)
  · refine dr_sl h fun w h _ => ?_
    rw [o_indexA (by omega) (by omega), o_indexA (by omega) (by omega)]
    simp only [o_bind]
    refine ld_in (b := b1) (o := 0 + (i : Int).toNat) (v := bv (a.getD i 0)) h (by rw [Nat.zero_add]; exact getbv (by rw [Int.toNat_natCast]; omega)) ?_
    refine ld_in (b := b2) (o := 0 + (i : Int).toNat) (v := bv (b.getD i 0)) h (by rw [Nat.zero_add]; exact getbv (by rw [Int.toNat_natCast]; omega)) ?_
    rw [o_xorB, o_orB, o_add, i64_of (by omega) (by omega)]
    refine hag (32 - (i + 1)) _ _ (by omega) ⟨i + 1, _, rfl, rfl, by omega, ?_, h⟩
    rw [or_xor_zero, hd, take_get (show i < a.length by omega), take_get (show i < b.length by omega)]
    constructor
    · rintro ⟨h1, h2⟩; rw [h1, h2]
    · intro h1
      obtain ⟨h2, h3⟩ := List.append_inj h1 (by simp; omega)
      exact ⟨h2, by simpa using h3⟩
  · have hi2 : i = 32 := by omega
    subst hi2
    rw [List.take_of_length_le (by omega), List.take_of_length_le (by omega)] at hd
    rw [show bv d = Value.int .u8 d.toNat from rfl, o_eqInt]
    have e : decide ((d.toNat : Int) = 0) = decide (a = b) := by
      rw [decide_eq_decide, ← hd]
      constructor
      · intro h0; exact UInt8.toNat_inj.1 (by simpa using h0)
      · rintro rfl; rfl
    rw [e]
    exact k _ h.drop.drop
end Go.Proofs.YtmnaalpjhkkglaaGreatDoor

/-
  What a password becomes by rounds: the code's and the reference's.
-/
set_option linter.all false
set_option maxRecDepth 10000
namespace Go.Proofs.YtmnaalpjhkkglaaGreatDoor
open Go Hold
variable {E : World0} {w : World} {H R : HP} {K : Value → World → Prop}
def iterN (pw salt : List UInt8) : Nat → List UInt8
  | 0 => tag salt pw
  | n + 1 => tag pw (iterN pw salt n)
theorem iterN_length (pw salt : List UInt8) : ∀ n, (iterN pw salt n).length = 32
  | 0 => tag_length _ _
  | n + 1 => tag_length _ _
def izeros32 : List UInt8 := List.replicate 32 0
theorem izeros32_length : izeros32.length = 32 := rfl
def iter (pw salt : List UInt8) (cost : Int) : List UInt8 × Int :=
  if 64 < pw.length ∨ 8 < salt.length then (izeros32, 6) else if cost < 1 ∨ 64 < cost then (izeros32, 2) else (iterN pw salt cost.toNat, 0)
theorem iter_length (pw salt : List UInt8) (cost : Int) : (iter pw salt cost).1.length = 32 := by
  unfold iter; split
  · rfl
  · split
    · rfl
    · exact iterN_length _ _ _
/-- A hash and an error, handed back. -/
def ihv2 (x : List UInt8 × Int) : Value := .tuple #[.agg (x.1.map bv).toArray, .int .i64 x.2]
theorem izeros_build {K : Value → World → Prop} (k : K (.agg (izeros32.map bv).toArray) w) : pvv prog (Instr.build 28 #[]) w K := pvv_of (fun w => by kernel_rfl) k
theorem ihash_ret2 (h : sat E w H) {b : Nat} {l ol : List UInt8} {e : Int} (hl : l.length = 32) (hol : ol.length = 32) [Own H b (.cells (ol.map bv).toArray 28 (0, 0)) R]
    (k : ∀ w', sat E w' (pts b (.cells (l.map bv).toArray 28 (0, 0)) * R) → K (ihv2 (l, e)) w') :
    efu prog (Instr.storeAt 28 (.pointer (some ⟨b, 0, none⟩)) (.agg (l.map bv).toArray)) w fun _ w =>
      ∃ r, (do loadVar 28 (← asAddr (.pointer (some ⟨b, 0, none⟩)))).run prog w = .ok r w ∧ K (.tuple #[r, .int .i64 e]) w :=
  hash_ret (K := fun r w => K (.tuple #[r, .int .i64 e]) w) h hl hol k
theorem Iterate_spec (h : sat E w H) {pw salt : List UInt8} {cost : Int} (hc : -9223372036854775808 ≤ cost ∧ cost ≤ 9223372036854775807) (k : ∀ w', sat E w' H → K (ihv2 (iter pw salt cost)) w') : Calls prog 46 #[tv pw, tv salt, .int .i64 cost] w (Ret K) := by
  refine c46 ?_
  unfold B46
  refine alloc_sl h fun b0 w h => ?_
  have h : sat E w (pts b0 (.cells (izeros32.map bv).toArray 28 (0, 0)) * H) := h
  simp only [↓o_lenT, ↓o_nil, ↓o_field, ↓o_add, ↓o_sub, ↓o_mul, ↓o_lss, ↓o_leq, ↓o_gtr, ↓o_geq, ↓o_not, ↓o_pick, ↓o_eqInt, ↓o_neInt, ↓o_eqBool, ↓o_neBool, ↓o_eqPtr, ↓o_nePtr, ↓o_eqPtr', ↓o_eqSl, ↓o_neSl, ↓o_eqStr, ↓o_neStr, ↓o_len, ↓o_lenS, ↓o_min, ↓o_max, ↓o_extract, ↓o_convInt, ↓cd_true, ↓cd_false, ↓gate_tt, ↓gate_ff, ↓gate_tf, ↓gate_ft, ↓gate_undef, ↓o_bind, ↓stay_v, ↓pop_cons, ↓fin_nil, Option.isNone_none, Option.isNone_some, Bool.not_true, Bool.not_false, Nat.zero_add, decide_true, decide_false, if_true, if_false, Bool.false_eq_true, ↓reduceIte]
  by_cases h1 : 64 < pw.length
  · have e1 : (64 : Int) < pw.length := by omega
    simp only [e1, ↓o_nil, ↓o_field, ↓o_add, ↓o_sub, ↓o_mul, ↓o_lss, ↓o_leq, ↓o_gtr, ↓o_geq, ↓o_not, ↓o_pick, ↓o_eqInt, ↓o_neInt, ↓o_eqBool, ↓o_neBool, ↓o_eqPtr, ↓o_nePtr, ↓o_eqPtr', ↓o_eqSl, ↓o_neSl, ↓o_eqStr, ↓o_neStr, ↓o_len, ↓o_lenS, ↓o_min, ↓o_max, ↓o_extract, ↓o_convInt, ↓cd_true, ↓cd_false, ↓gate_tt, ↓gate_ff, ↓gate_tf, ↓gate_ft, ↓gate_undef, ↓o_bind, ↓stay_v, ↓pop_cons, ↓fin_nil, Option.isNone_none, Option.isNone_some, Bool.not_true, Bool.not_false, Nat.zero_add, decide_true, decide_false, if_true, if_false, Bool.false_eq_true, ↓reduceIte]
    refine izeros_build ?_
    have e : iter pw salt cost = (izeros32, 6) := by unfold iter; rw [if_pos (.inl h1)]
    refine ihash_ret2 (b := b0) h izeros32_length izeros32_length fun w h => ?_
    rw [e] at k
    exact k _ h.drop
  have e1 : ¬ (64 : Int) < pw.length := by omega
  simp only [e1, ↓o_lenT, ↓o_nil, ↓o_field, ↓o_add, ↓o_sub, ↓o_mul, ↓o_lss, ↓o_leq, ↓o_gtr, ↓o_geq, ↓o_not, ↓o_pick, ↓o_eqInt, ↓o_neInt, ↓o_eqBool, ↓o_neBool, ↓o_eqPtr, ↓o_nePtr, ↓o_eqPtr', ↓o_eqSl, ↓o_neSl, ↓o_eqStr, ↓o_neStr, ↓o_len, ↓o_lenS, ↓o_min, ↓o_max, ↓o_extract, ↓o_convInt, ↓cd_true, ↓cd_false, ↓gate_tt, ↓gate_ff, ↓gate_tf, ↓gate_ft, ↓gate_undef, ↓o_bind, ↓stay_v, ↓pop_cons, ↓fin_nil, Option.isNone_none, Option.isNone_some, Bool.not_true, Bool.not_false, Nat.zero_add, decide_true, decide_false, if_true, if_false, Bool.false_eq_true, ↓reduceIte]
  by_cases h2 : 8 < salt.length
  · have e2 : (8 : Int) < salt.length := by omega
    simp only [e2, ↓o_nil, ↓o_field, ↓o_add, ↓o_sub, ↓o_mul, ↓o_lss, ↓o_leq, ↓o_gtr, ↓o_geq, ↓o_not, ↓o_pick, ↓o_eqInt, ↓o_neInt, ↓o_eqBool, ↓o_neBool, ↓o_eqPtr, ↓o_nePtr, ↓o_eqPtr', ↓o_eqSl, ↓o_neSl, ↓o_eqStr, ↓o_neStr, ↓o_len, ↓o_lenS, ↓o_min, ↓o_max, ↓o_extract, ↓o_convInt, ↓cd_true, ↓cd_false, ↓gate_tt, ↓gate_ff, ↓gate_tf, ↓gate_ft, ↓gate_undef, ↓o_bind, ↓stay_v, ↓pop_cons, ↓fin_nil, Option.isNone_none, Option.isNone_some, Bool.not_true, Bool.not_false, Nat.zero_add, decide_true, decide_false, if_true, if_false, Bool.false_eq_true, ↓reduceIte]
    refine izeros_build ?_
    have e : iter pw salt cost = (izeros32, 6) := by unfold iter; rw [if_pos (.inr h2)]
    refine ihash_ret2 (b := b0) h izeros32_length izeros32_length fun w h => ?_
    rw [e] at k
    exact k _ h.drop
  have e2 : ¬ (8 : Int) < salt.length := by omega
  simp only [e2, ↓o_nil, ↓o_field, ↓o_add, ↓o_sub, ↓o_mul, ↓o_lss, ↓o_leq, ↓o_gtr, ↓o_geq, ↓o_not, ↓o_pick, ↓o_eqInt, ↓o_neInt, ↓o_eqBool, ↓o_neBool, ↓o_eqPtr, ↓o_nePtr, ↓o_eqPtr', ↓o_eqSl, ↓o_neSl, ↓o_eqStr, ↓o_neStr, ↓o_len, ↓o_lenS, ↓o_min, ↓o_max, ↓o_extract, ↓o_convInt, ↓cd_true, ↓cd_false, ↓gate_tt, ↓gate_ff, ↓gate_tf, ↓gate_ft, ↓gate_undef, ↓o_bind, ↓stay_v, ↓pop_cons, ↓fin_nil, Option.isNone_none, Option.isNone_some, Bool.not_true, Bool.not_false, Nat.zero_add, decide_true, decide_false, if_true, if_false, Bool.false_eq_true, ↓reduceIte]
  by_cases h3 : cost < 1
  · simp only [h3, ↓o_nil, ↓o_field, ↓o_add, ↓o_sub, ↓o_mul, ↓o_lss, ↓o_leq, ↓o_gtr, ↓o_geq, ↓o_not, ↓o_pick, ↓o_eqInt, ↓o_neInt, ↓o_eqBool, ↓o_neBool, ↓o_eqPtr, ↓o_nePtr, ↓o_eqPtr', ↓o_eqSl, ↓o_neSl, ↓o_eqStr, ↓o_neStr, ↓o_len, ↓o_lenS, ↓o_min, ↓o_max, ↓o_extract, ↓o_convInt, ↓cd_true, ↓cd_false, ↓gate_tt, ↓gate_ff, ↓gate_tf, ↓gate_ft, ↓gate_undef, ↓o_bind, ↓stay_v, ↓pop_cons, ↓fin_nil, Option.isNone_none, Option.isNone_some, Bool.not_true, Bool.not_false, Nat.zero_add, decide_true, decide_false, if_true, if_false, Bool.false_eq_true, ↓reduceIte]
    refine izeros_build ?_
    have e : iter pw salt cost = (izeros32, 2) := by unfold iter; rw [if_neg (by omega), if_pos (.inl h3)]
    refine ihash_ret2 (b := b0) h izeros32_length izeros32_length fun w h => ?_
    rw [e] at k
    exact k _ h.drop
  simp only [h3, ↓o_nil, ↓o_field, ↓o_add, ↓o_sub, ↓o_mul, ↓o_lss, ↓o_leq, ↓o_gtr, ↓o_geq, ↓o_not, ↓o_pick, ↓o_eqInt, ↓o_neInt, ↓o_eqBool, ↓o_neBool, ↓o_eqPtr, ↓o_nePtr, ↓o_eqPtr', ↓o_eqSl, ↓o_neSl, ↓o_eqStr, ↓o_neStr, ↓o_len, ↓o_lenS, ↓o_min, ↓o_max, ↓o_extract, ↓o_convInt, ↓cd_true, ↓cd_false, ↓gate_tt, ↓gate_ff, ↓gate_tf, ↓gate_ft, ↓gate_undef, ↓o_bind, ↓stay_v, ↓pop_cons, ↓fin_nil, Option.isNone_none, Option.isNone_some, Bool.not_true, Bool.not_false, Nat.zero_add, decide_true, decide_false, if_true, if_false, Bool.false_eq_true, ↓reduceIte]
  by_cases h4 : 64 < cost
  · simp only [h4, ↓o_nil, ↓o_field, ↓o_add, ↓o_sub, ↓o_mul, ↓o_lss, ↓o_leq, ↓o_gtr, ↓o_geq, ↓o_not, ↓o_pick, ↓o_eqInt, ↓o_neInt, ↓o_eqBool, ↓o_neBool, ↓o_eqPtr, ↓o_nePtr, ↓o_eqPtr', ↓o_eqSl, ↓o_neSl, ↓o_eqStr, ↓o_neStr, ↓o_len, ↓o_lenS, ↓o_min, ↓o_max, ↓o_extract, ↓o_convInt, ↓cd_true, ↓cd_false, ↓gate_tt, ↓gate_ff, ↓gate_tf, ↓gate_ft, ↓gate_undef, ↓o_bind, ↓stay_v, ↓pop_cons, ↓fin_nil, Option.isNone_none, Option.isNone_some, Bool.not_true, Bool.not_false, Nat.zero_add, decide_true, decide_false, if_true, if_false, Bool.false_eq_true, ↓reduceIte]
    refine izeros_build ?_
    have e : iter pw salt cost = (izeros32, 2) := by unfold iter; rw [if_neg (by omega), if_pos (.inr h4)]
    refine ihash_ret2 (b := b0) h izeros32_length izeros32_length fun w h => ?_
    rw [e] at k
    exact k _ h.drop
  simp only [h4, ↓o_nil, ↓o_field, ↓o_add, ↓o_sub, ↓o_mul, ↓o_lss, ↓o_leq, ↓o_gtr, ↓o_geq, ↓o_not, ↓o_pick, ↓o_eqInt, ↓o_neInt, ↓o_eqBool, ↓o_neBool, ↓o_eqPtr, ↓o_nePtr, ↓o_eqPtr', ↓o_eqSl, ↓o_neSl, ↓o_eqStr, ↓o_neStr, ↓o_len, ↓o_lenS, ↓o_min, ↓o_max, ↓o_extract, ↓o_convInt, ↓cd_true, ↓cd_false, ↓gate_tt, ↓gate_ff, ↓gate_tf, ↓gate_ft, ↓gate_undef, ↓o_bind, ↓stay_v, ↓pop_cons, ↓fin_nil, Option.isNone_none, Option.isNone_some, Bool.not_true, Bool.not_false, Nat.zero_add, decide_true, decide_false, if_true, if_false, Bool.false_eq_true, ↓reduceIte]
  obtain ⟨n, rfl⟩ := Int.eq_ofNat_of_zero_le (show 0 ≤ cost by omega)
  refine conv_sb h fun b1 c1 sp1 fr1 w h hc1 => ?_
  refine conv_sb h fun b2 c2 sp2 fr2 w h hc2 => ?_
  refine Tag_spec h (key := salt) (b := pw) (rds_row (b := b1) hc1) (rds_row (b := b2) hc2) (by omega) (by omega) fun w h => ?_
  have h := h.drop.drop
  refine hash_var h (tag_length _ _) fun bh w h => ?_
  refine lp_nat (fun q σ w => ∃ i : Nat, σ = [.int .i64 i] ∧ q = n - i ∧ i ≤ n ∧ sat E w (pts bh (.cells ((iterN pw salt i).map bv).toArray 28 (0, 0)) * (pts b0 (.cells (izeros32.map bv).toArray 28 (0, 0)) * H))) n ⟨0, rfl, rfl, by omega, h⟩ ?_
  clear h
  rintro q σ w again ⟨i, rfl, rfl, hi, h⟩ hag
  rw [pop_cons, fin_nil, o_lss]
  refine cd_dec (fun hlt => ?_) (fun hge => ?_)
  · refine conv_sb h fun b3 c3 sp3 fr3 w h hc3 => ?_
    rw [o_sliceA]
    have hil := iterN_length pw salt i
    refine Tag_spec h (key := pw) (b := iterN pw salt i) (rds_row (b := b3) hc3) (by rw [hil]; exact rds_block (b := bh) (Nat.le_refl _)) (by omega) (by omega) fun w h => ?_
    have h := h.drop
    refine storeN_sl (b := bh) h (aggC_28).size (vs := (tag pw (iterN pw salt i)).map bv) (by simp [Value.cells]) (by simp [tag_length]) (bv_one _) (by simp [hil]) fun w h => ?_
    rw [o_add, i64_of (by omega) (by omega)]
    refine hag (n - (i + 1)) _ _ (by omega) ⟨i + 1, rfl, rfl, by omega, ?_⟩
    have e : ((iterN pw salt i).map bv).take 0 ++ (tag pw (iterN pw salt i)).map bv ++ ((iterN pw salt i).map bv).drop (0 + 32) = (iterN pw salt (i + 1)).map bv := by
      rw [List.drop_eq_nil_of_le (by simp [hil])]; simp [iterN]
    rw [e] at h
    exact h
  · have hi2 : i = n := by omega
    subst hi2
    refine ld_agg (b := bh) h (by simp [iterN_length]) ?_
    have e : iter pw salt (i : Int) = (iterN pw salt i, 0) := by unfold iter; rw [if_neg (by omega), if_neg (by omega)]; rfl
    refine ihash_ret2 (b := b0) h (iterN_length _ _ _) izeros32_length fun w h => ?_
    rw [e] at k
    exact k _ h.drop.drop
theorem ieq23 {a b : List UInt8} (ha : a.length = 32) (hb : b.length = 32) {xo yo : Operand} {K : Value → World → Prop} : pvv prog (oEq .eql 28 xo yo (.agg (a.map bv).toArray) (.agg (b.map bv).toArray)) w K = K (.bool (a == b)) w := o_eqArr (n := 32) (by kernel_rfl) ha hb
end Go.Proofs.YtmnaalpjhkkglaaGreatDoor
