/-
  A part of a region whose order is free: what is known of each slot once it is filled stays for ever.
-/
import Derived.Test.YtmnaalpjhkkglaaDoorStructs
set_option linter.all false
namespace Hold
open Go
section
variable {P : Program} {E : World0} {w : World} {H R : HP} {K : Value → World → Prop}
/-- What is known of the slots that are filled. -/
def slotsP (φ : Nat → Value → PP) (σ : List (Option Value)) : PP := ⟨fun I => ∀ k v, σ[k]? = some (some v) → (φ k v).p I, fun hI h k v hv => (φ k v).mono hI (h k v hv)⟩
def slots (φ : Nat → Value → PP) (σ : List (Option Value)) (H : HP) : HP := pers (slotsP φ σ) * H
def ppOf (p : Prop) : PP := ⟨fun _ => p, fun _ h => h⟩
theorem par_sl (φ : Nat → Value → PP) {n : Nat} {A : (List (Option Value) → World → Prop) → Prop} (h : sat E w H) (k : A (fun σ w => sat E w (slots φ σ H))) : par n w A := by
  refine ⟨_, ?_, k⟩
  unfold slots
  refine h.mono fun I h' hp' => (pers_star_p _ _ _ _).2 ⟨?_, hp'⟩
  intro k v hv
  rw [List.getElem?_replicate] at hv
  split at hv <;> cases hv
theorem slots.get {φ : Nat → Value → PP} {σ : List (Option Value)} (h : sat E w (slots φ σ H)) {k : Nat} {v : Value} (hv : σ[k]? = some (some v)) : (φ k v).p (hp w) := h.pers_get k v hv
theorem slots.rds {φ : Nat → Value → PP} {σ : List (Option Value)} {v u : Value} {n : Nat} {xs : List Value} {k : Nat} (hv : σ[k]? = some (some v)) (hφ : ∀ I, (φ k v).p I → RdS I u n xs) : Rds (slots φ σ H) u n xs := fun E w hs => hφ _ (slots.get hs hv)
theorem slots.add {φ : Nat → Value → PP} {σ : List (Option Value)} {k : Nat} {v : Value} (h : sat E w (pers (φ k v) * slots φ σ H)) : sat E w (slots φ (σ.set k (some v)) H) := by
  unfold slots at h ⊢
  rw [← star_assoc, pers_and] at h
  refine h.pers_mono fun I hI => ?_
  intro j u hj
  rw [List.getElem?_set] at hj
  split at hj
  · rename_i hkj
    subst hkj
    split at hj
    · cases hj; exact hI.1
    · cases hj
  · exact hI.2 j u hj
theorem slots.put {φ : Nat → Value → PP} {σ : List (Option Value)} {k : Nat} {v : Value} (h : sat E w (slots φ σ H)) (hp : (φ k v).p (fun _ => none)) : sat E w (slots φ (σ.set k (some v)) H) :=
  slots.add (h.mono fun I h' hp' => (pers_star_p _ _ _ _).2 ⟨(φ k v).mono (fun _ _ h => by cases h) hp, hp'⟩)
/-- What is owned and stays. -/
theorem slots.keep {φ : Nat → Value → PP} {σ : List (Option Value)} {k e n sz : Nat} {v : Value} {xs : List Value} (h : sat E w (osl e sz v n xs * slots φ σ H)) (hp : ∀ I, RdS I v n xs → (φ k v).p I) : sat E w (slots φ (σ.set k (some v)) H) :=
  slots.add ((osl_freeze h).pers_mono hp)
theorem slots.keepb {φ : Nat → Value → PP} {σ : List (Option Value)} {k b e n : Nat} {xs : List Value} (h : sat E w (pts b (.cells xs.toArray e (0, 0)) * slots φ σ H)) (hn : n ≤ 9223372036854775807) (hx : xs.length = n)
    (hp : ∀ I, RdS I (.slice (some ⟨b, 0, none⟩) n n) n xs → (φ k (.slice (some ⟨b, 0, none⟩) n n)).p I) : sat E w (slots φ (σ.set k (some (.slice (some ⟨b, 0, none⟩) n n))) H) :=
  slots.keep (sz := 1) (osl_of (e := e) h (by omega) hn) hp
theorem slots.old {φ : Nat → Value → PP} {σ : List (Option Value)} (h : sat E w (slots φ σ H)) : sat E w H := h.drop
/-- The block b reads o, among the slots' frame. -/
instance (priority := 900) Has.slots {φ : Nat → Value → PP} {σ : List (Option Value)} (H : HP) (b : Nat) (o : Obj) [i : Has H b o] : Has (slots φ σ H) b o := ⟨fun h => i.get (slots.old h)⟩
theorem Rds.slots {φ : Nat → Value → PP} {σ : List (Option Value)} {v : Value} {n : Nat} {xs : List Value} (h : Rds H v n xs) : Rds (Hold.slots φ σ H) v n xs := fun E w hs => h E w (slots.old hs)
theorem o_gtrT {t : TypeId} {a b : List UInt8} : pvv P (binOp .gtr t (tv a) (tv b)) w K = K (.bool !(lexB a b || (a == b))) w := pvv_eq fun w => by
  have : (⟨a.toArray⟩ : ByteArray).toList = a ∧ (⟨b.toArray⟩ : ByteArray).toList = b := by simp [ByteArray.toList_eq]
  simp only [binOp, Op.stringOp, tv, this.1, this.2, bytesLess_lexB]
  rfl
end
end Hold
