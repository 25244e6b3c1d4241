/-
  A log of groups of pages, plainly: what it holds, what its calls do. No program in sight.
-/
import Derived.Test.YtcjklbhobmkalaaHp
set_option linter.all false
set_option maxRecDepth 100000
namespace Go.Proofs.Ytcjklbhobmkalaa
open Go Hold
abbrev Bs := List UInt8
/-! ### Maps from numbers to numbers -/
def putA : List (Int × Int) → Int → Int → List (Int × Int)
  | [], k, v => [(k, v)]
  | x :: r, k, v => if k = x.1 then (k, v) :: r else x :: putA r k v
def lookA : List (Int × Int) → Int → Option Int
  | [], _ => none
  | x :: r, k => if k = x.1 then some x.2 else lookA r k
theorem lookA_put (k v k' : Int) : ∀ l, lookA (putA l k v) k' = if k' = k then some v else lookA l k'
  | [] => by simp [putA, lookA]
  | x :: r => by
    have ih := lookA_put k v k' r
    unfold putA
    by_cases h : k = x.1
    · subst h
      rw [if_pos rfl]
      simp only [lookA]
      split <;> simp_all
    · rw [if_neg h]
      simp only [lookA, ih]
      by_cases h1 : k' = x.1
      · rw [if_pos h1, if_neg (by omega), if_pos h1]
      · rw [if_neg h1, if_neg h1]
theorem putA_mem {k v : Int} {y : Int × Int} : ∀ {l}, y ∈ putA l k v → y = (k, v) ∨ y ∈ l
  | [], h => by simp [putA] at h; exact .inl h
  | x :: r, h => by
    unfold putA at h
    split at h
    · rcases List.mem_cons.1 h with h | h
      · exact .inl h
      · exact .inr (List.mem_cons_of_mem _ h)
    · rcases List.mem_cons.1 h with h | h
      · exact .inr (by simp [h])
      · exact (putA_mem h).imp id (List.mem_cons_of_mem _)
theorem putA_keys {k v : Int} {y : Int × Int} {l : List (Int × Int)} (h : y ∈ putA l k v) : y.1 = k ∨ y.1 ∈ l.map (·.1) := by
  rcases putA_mem h with h | h
  · exact .inl (by rw [h])
  · exact .inr (List.mem_map_of_mem h)
theorem putA_nodup {k v : Int} : ∀ {l : List (Int × Int)}, (l.map (·.1)).Nodup → ((putA l k v).map (·.1)).Nodup
  | [], _ => by simp [putA]
  | x :: r, h => by
    rw [List.map_cons, List.nodup_cons] at h
    unfold putA
    split
    · rename_i e
      rw [List.map_cons, List.nodup_cons]
      exact ⟨by rw [e]; exact h.1, h.2⟩
    · rename_i e
      rw [List.map_cons, List.nodup_cons]
      refine ⟨fun hm => ?_, putA_nodup h.2⟩
      obtain ⟨y, hy, e2⟩ := List.mem_map.1 hm
      rcases putA_keys hy with h1 | h1
      · exact e (by rw [← h1, e2])
      · exact h.1 (by rw [← e2]; exact h1)
theorem lookA_mem {k v : Int} : ∀ {l}, lookA l k = some v → (k, v) ∈ l
  | [], h => by simp [lookA] at h
  | x :: r, h => by
    unfold lookA at h
    split at h
    · rename_i e
      have : x.2 = v := by simpa using h
      subst this; subst e
      simp
    · exact List.mem_cons_of_mem _ (lookA_mem h)
theorem lookA_of {k : Int} : ∀ {l : List (Int × Int)}, k ∈ l.map (·.1) → ∃ v, lookA l k = some v
  | [], h => by simp at h
  | x :: r, h => by
    unfold lookA
    by_cases e : k = x.1
    · exact ⟨_, by rw [if_pos e]⟩
    · rw [if_neg e]
      refine lookA_of ?_
      rcases List.mem_cons.1 h with h | h
      · exact absurd h e
      · exact h
theorem lookA_none {k : Int} {l : List (Int × Int)} (h : k ∉ l.map (·.1)) : lookA l k = none := by
  cases e : lookA l k with
  | none => rfl
  | some v => exact absurd (List.mem_map_of_mem (f := (·.1)) (lookA_mem e)) h

/-! ### Numbers in bytes, the highest first -/
def be : Nat → Nat → Bs
  | 0, _ => []
  | m + 1, n => UInt8.ofNat (n / 256 ^ m) :: be m n
theorem be_length (n : Nat) : ∀ m, (be m n).length = m
  | 0 => rfl
  | m + 1 => by simp [be, be_length n m]
/-- Bytes laid over others, from a place on. -/
def over (l : Bs) (o : Nat) (b : Bs) : Bs := l.take o ++ b ++ l.drop (o + b.length)
theorem over_length {l : Bs} {o : Nat} {b : Bs} (h : o + b.length ≤ l.length) : (over l o b).length = l.length := by
  simp [over]; omega
def noughts (n : Nat) : Bs := List.replicate n 0
/-- The index of a group. -/
def idx (ns : List Int) : Bs := be 2 ns.length ++ (ns.flatMap fun n => be 2 n.toNat) ++ noughts (254 - 2 * ns.length)
/-- The head. -/
def hdB (groups used : Nat) : Bs := [0x48, 0x46] ++ be 8 groups ++ be 2 used ++ noughts 244
theorem fm2_length (ns : List Int) : (ns.flatMap fun n => be 2 n.toNat).length = 2 * ns.length := by
  induction ns with
  | nil => rfl
  | cons n ns ih => rw [List.flatMap_cons, List.length_append, ih, be_length, List.length_cons]; omega
theorem idx_length {ns : List Int} (h : ns.length ≤ 100) : (idx ns).length = 256 := by
  simp only [idx, List.length_append, be_length, fm2_length, noughts, List.length_replicate]; omega
theorem hdB_length (g u : Nat) : (hdB g u).length = 256 := by
  simp only [hdB, List.length_append, be_length, noughts, List.length_replicate, List.length_cons, List.length_nil]
end Go.Proofs.Ytcjklbhobmkalaa
