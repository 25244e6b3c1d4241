/-
  Structs within blocks: parts of a written list, elements of several cells, the sameness of structs.
-/
import Derived.Test.YtfaeklinhchidaaGreatStrs
import Derived.Laws.StructEq
set_option linter.all false
namespace Hold
open Go
section
variable {P : Program} {E : World0} {w : World} {H R : HP} {K : Value → World → Prop}
theorem take_cell {xs ys : List Value} {o n j : Nat} {v : Value} (hy : (xs.drop o).take n = ys) (hj : ys[j]? = some v) : xs[o + j]? = some v := by
  subst hy
  rw [List.getElem?_take] at hj
  split at hj
  · rwa [List.getElem?_drop] at hj
  · cases hj
theorem ld_part (h : sat E w H) {t n b o e : Nat} {xs : List Value} {fr : Nat × Nat} [i : AggC P t n] [hb : Has H b (.cells xs.toArray e fr)] (ys : List Value) (hn : ys.length = n) (hy : (xs.drop o).take n = ys) (k : K (.agg ys.toArray) w) :
    ldv P (Instr.loadAt t (.pointer (some ⟨b, o, none⟩))) w K :=
  ldv_of (run_loadN hn fun j v hj => cell_of (hb.get h) (by simpa using take_cell hy hj)) k
theorem store_part (h : sat E w H) {t n b o e : Nat} {xs vs : List Value} [i : AggC P t n] [hb : Own H b (.cells xs.toArray e (0, 0)) R] (ys : List Value) (hn : vs.length = n) (h1 : ∀ x ∈ vs, x.oneCell' = true) (hl : o + n ≤ xs.length)
    (hy : xs.take o ++ vs ++ xs.drop (o + n) = ys) (k : ∀ w', sat E w' (pts b (.cells ys.toArray e (0, 0)) * R) → K undef w') :
    efu P (Instr.storeAt t (.pointer (some ⟨b, o, none⟩)) (.agg vs.toArray)) w K := by
  subst hy
  exact storeN_sl (b := b) h i.size (vs := vs) (by simp [Value.cells]) hn h1 hl k
/-- A store of a struct over all of its block. -/
theorem store_all (h : sat E w H) {t n b e : Nat} {xs vs : List Value} [i : AggC P t n] [hb : Own H b (.cells xs.toArray e (0, 0)) R] (hx : xs.length = n) (hn : vs.length = n) (h1 : ∀ x ∈ vs, x.oneCell' = true)
    (k : ∀ w', sat E w' (pts b (.cells vs.toArray e (0, 0)) * R) → K undef w') :
    efu P (Instr.storeAt t (.pointer (some ⟨b, 0, none⟩)) (.agg vs.toArray)) w K :=
  store_part (b := b) h vs hn h1 (by omega) (by rw [List.take_zero, List.nil_append, List.drop_eq_nil_of_le (by omega), List.append_nil]) k
/-- An element of several cells. -/
theorem ld_el (h : sat E w H) {t b o n c q sz : Nat} {xs : List Value} [i : AggC P t sz] (hb : Rds H (.slice (some ⟨b, o, none⟩) n c) n xs) (d : Nat) (hq : q = o + d) (ys : List Value) (hn : ys.length = sz) (hy : (xs.drop d).take sz = ys) (k : K (.agg ys.toArray) w) :
    ldv P (Instr.loadAt t (.pointer (some ⟨b, q, none⟩))) w K :=
  ldv_of (run_loadN hn fun j v hj => hb.cell h (by omega) (take_cell hy hj)) k
theorem st_el (h : sat E w H) {g : Gd} {t b o n c q sz : Nat} {xs : List Value} {A : Prop} [i : AggC P t sz] (hb : Rds H (.slice (some ⟨b, o, none⟩) n c) n xs) (d : Nat) (hq : q = o + d) (ys : List Value) (hn : ys.length = sz) (hy : (xs.drop d).take sz = ys) (k : A) :
    stv P g (Instr.loadAt t (.pointer (some ⟨b, q, none⟩))) (.agg ys.toArray) w A :=
  stv_of (run_loadN hn fun j v hj => hb.cell h (by omega) (take_cell hy hj)) k
theorem o_slice_hm {t e n m : Nat} {z : Value} [i : SliceT P t e n m z] {a : Option Addr} {l c : Nat} {k k' : IntKind} {y x : Int} (h0 : 0 ≤ y) (h1 : y ≤ x) (h2 : x ≤ c) :
    pvv P (Instr.sliceAt t (.slice a l c) none (some (.int k y)) (some (.int k' x))) w K = K (.slice a y.toNat x.toNat) w := by
  obtain ⟨y, rfl⟩ := Int.eq_ofNat_of_zero_le h0
  obtain ⟨x, rfl⟩ := Int.eq_ofNat_of_zero_le (show 0 ≤ x by omega)
  have h1' : y ≤ x := by omega
  have h2' : x ≤ c := by omega
  exact pvv_eq fun w => by
    have ha : ∀ a : Addr, a.add 0 = a := fun a => by cases a; unfold Addr.add; split <;> simp_all
    cases a <;> simp [Instr.sliceAt, Instr.slice, Instr.sliceBounds, Instr.sliceBound, asIntOf, run_underlying' i.ul, run_sizeOf' i.size, h1', h2', ha]
/-- A result that stands in a block of its own, of several cells. -/
theorem res_all (h : sat E w H) {t n b e : Nat} {xs vs : List Value} [i : AggC P t n] [hb : Own H b (.cells xs.toArray e (0, 0)) R] (hx : xs.length = n) (hn : vs.length = n) (h1 : ∀ x ∈ vs, x.oneCell' = true)
    (k : ∀ w', sat E w' (pts b (.cells vs.toArray e (0, 0)) * R) → K (.agg vs.toArray) w') :
    efu P (Instr.storeAt t (.pointer (some ⟨b, 0, none⟩)) (.agg vs.toArray)) w fun _ w => ∃ r, (do loadVar t (← asAddr (.pointer (some ⟨b, 0, none⟩)))).run P w = .ok r w ∧ K r w :=
  store_all (b := b) h hx hn h1 fun w h => res_agg (b := b) h hn (k _ h)
theorem res_one (h : sat E w H) {t b e : Nat} {xs : List Value} {v : Value} [i : OneC P t] [hb : Has H b (.cells xs.toArray e (0, 0))] (hv : xs[0]? = some v) (k : K v w) :
    ∃ r, (do loadVar t (← asAddr (.pointer (some ⟨b, 0, none⟩)))).run P w = .ok r w ∧ K r w := by
  refine ⟨_, ?_, k⟩
  have := run_load1 (P := P) (w := w) (t := t) (a := ⟨b, 0, none⟩) (v := v) (cell_of (hb.get h) (by simpa using hv))
  simpa [Instr.loadAt, Instr.sureAddr, asAddr] using this
end
end Hold

/-
  A part of a region whose order is free: what is known of each slot once it is filled stays for ever.
-/
set_option linter.all false
namespace Hold
open Go
section
variable {P : Program} {E : World0} {w : World} {H R : HP} {K : Value → World → Prop}
/-- What is known of the slots that are filled. -/
def slotsP (φ : Nat → Value → PP) (σ : List (Option Value)) : PP := ⟨fun I => ∀ k v, σ[k]? = some (some v) → (φ k v).p I, fun hI h k v hv => (φ k v).mono hI (h k v hv)⟩
def slots (φ : Nat → Value → PP) (σ : List (Option Value)) (H : HP) : HP := pers (slotsP φ σ) * H
def ppOf (p : Prop) : PP := ⟨fun _ => p, fun _ h => h⟩
theorem par_sl (φ : Nat → Value → PP) {n : Nat} {A : (List (Option Value) → World → Prop) → Prop} (h : sat E w H) (k : A (fun σ w => sat E w (slots φ σ H))) : par n w A := by
  refine ⟨_, ?_, k⟩
  unfold slots
  refine h.mono fun I h' hp' => (pers_star_p _ _ _ _).2 ⟨?_, hp'⟩
  intro k v hv
  rw [List.getElem?_replicate] at hv
  split at hv <;> cases hv
theorem slots.get {φ : Nat → Value → PP} {σ : List (Option Value)} (h : sat E w (slots φ σ H)) {k : Nat} {v : Value} (hv : σ[k]? = some (some v)) : (φ k v).p (hp w) := h.pers_get k v hv
theorem slots.rds {φ : Nat → Value → PP} {σ : List (Option Value)} {v u : Value} {n : Nat} {xs : List Value} {k : Nat} (hv : σ[k]? = some (some v)) (hφ : ∀ I, (φ k v).p I → RdS I u n xs) : Rds (slots φ σ H) u n xs := fun E w hs => hφ _ (slots.get hs hv)
theorem slots.add {φ : Nat → Value → PP} {σ : List (Option Value)} {k : Nat} {v : Value} (h : sat E w (pers (φ k v) * slots φ σ H)) : sat E w (slots φ (σ.set k (some v)) H) := by
  unfold slots at h ⊢
  rw [← star_assoc, pers_and] at h
  refine h.pers_mono fun I hI => ?_
  intro j u hj
  rw [List.getElem?_set] at hj
  split at hj
  · rename_i hkj
    subst hkj
    split at hj
    · cases hj; exact hI.1
    · cases hj
  · exact hI.2 j u hj
theorem slots.put {φ : Nat → Value → PP} {σ : List (Option Value)} {k : Nat} {v : Value} (h : sat E w (slots φ σ H)) (hp : (φ k v).p (fun _ => none)) : sat E w (slots φ (σ.set k (some v)) H) :=
  slots.add (h.mono fun I h' hp' => (pers_star_p _ _ _ _).2 ⟨(φ k v).mono (fun _ _ h => by cases h) hp, hp'⟩)
/-- What is owned and stays. -/
theorem slots.keep {φ : Nat → Value → PP} {σ : List (Option Value)} {k e n sz : Nat} {v : Value} {xs : List Value} (h : sat E w (osl e sz v n xs * slots φ σ H)) (hp : ∀ I, RdS I v n xs → (φ k v).p I) : sat E w (slots φ (σ.set k (some v)) H) :=
  slots.add ((osl_freeze h).pers_mono hp)
theorem slots.keepb {φ : Nat → Value → PP} {σ : List (Option Value)} {k b e n : Nat} {xs : List Value} (h : sat E w (pts b (.cells xs.toArray e (0, 0)) * slots φ σ H)) (hn : n ≤ 9223372036854775807) (hx : xs.length = n)
    (hp : ∀ I, RdS I (.slice (some ⟨b, 0, none⟩) n n) n xs → (φ k (.slice (some ⟨b, 0, none⟩) n n)).p I) : sat E w (slots φ (σ.set k (some (.slice (some ⟨b, 0, none⟩) n n))) H) :=
  slots.keep (sz := 1) (osl_of (e := e) h (by omega) hn) hp
theorem slots.old {φ : Nat → Value → PP} {σ : List (Option Value)} (h : sat E w (slots φ σ H)) : sat E w H := h.drop
/-- The block b reads o, among the slots' frame. -/
instance (priority := 900) Has.slots {φ : Nat → Value → PP} {σ : List (Option Value)} (H : HP) (b : Nat) (o : Obj) [i : Has H b o] : Has (slots φ σ H) b o := ⟨fun h => i.get (slots.old h)⟩
theorem Rds.slots {φ : Nat → Value → PP} {σ : List (Option Value)} {v : Value} {n : Nat} {xs : List Value} (h : Rds H v n xs) : Rds (Hold.slots φ σ H) v n xs := fun E w hs => h E w (slots.old hs)
end
end Hold
