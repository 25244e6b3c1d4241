/-
  Parts of keys: what they are; the first nought of a slice of bytes.
-/
import Derived.Test.YtnkmgkilfkgfhaaDoorCodU
import Derived.Lib.BytesEntry
set_option linter.all false
set_option maxRecDepth 10000
namespace Go.Proofs.YtnkmgkilfkgfhaaDoor
open Go Hold
variable {E : World0} {w : World} {H R : HP} {K : Value → World → Prop}
def dec : List UInt8 → List UInt8 → Option (List (List UInt8))
  | [], p => if p = [] then some [] else none
  | [_], _ => none
  | c :: d :: r, p => if c = 0 then (if d = 255 then dec r (p ++ [0]) else if d = 1 then (dec r []).map (p :: ·) else none) else dec (d :: r) (p ++ [c])
theorem dec_nil (p : List UInt8) : dec [] p = if p = [] then some [] else none := by unfold dec; rfl
theorem dec_one {c : UInt8} {p : List UInt8} : dec [c] p = none := by unfold dec; rfl
theorem dec_nz {c d : UInt8} {r p : List UInt8} (h : c ≠ 0) : dec (c :: d :: r) p = dec (d :: r) (p ++ [c]) := by rw [dec, if_neg h]
theorem dec_ff {r p : List UInt8} : dec (0 :: 255 :: r) p = dec r (p ++ [0]) := by rw [dec, if_pos rfl, if_pos rfl]
theorem dec_01 {r p : List UInt8} : dec (0 :: 1 :: r) p = (dec r []).map (p :: ·) := by rw [dec, if_pos rfl, if_neg (by decide), if_pos rfl]
theorem dec_bad {d : UInt8} {r p : List UInt8} (h1 : d ≠ 255) (h2 : d ≠ 1) : dec (0 :: d :: r) p = none := by rw [dec, if_pos rfl, if_neg h1, if_neg h2]
theorem dec_run : ∀ (t : List UInt8) {s p : List UInt8}, (∀ c ∈ t, c ≠ 0) → s ≠ [] → dec (t ++ s) p = dec s (p ++ t)
  | [], s, p, _, _ => by simp
  | c :: t, s, p, h, hs => by
    obtain ⟨d, r, hd⟩ : ∃ d r, t ++ s = d :: r := by
      cases h' : t ++ s with
      | nil => simp at h'; exact absurd h'.2 hs
      | cons d r => exact ⟨d, r, rfl⟩
    rw [List.cons_append, hd, dec_nz (h c (List.mem_cons_self ..)), ← hd, dec_run t (fun c hc => h c (List.mem_cons_of_mem _ hc)) hs]
    simp
theorem dec_none : ∀ (t : List UInt8) {p : List UInt8}, (∀ c ∈ t, c ≠ 0) → t ≠ [] → dec t p = none
  | [], _, _, h => absurd rfl h
  | [c], p, _, _ => dec_one
  | c :: d :: t, p, h, _ => by
    rw [dec_nz (h c (List.mem_cons_self ..))]
    exact dec_none (d :: t) (fun c hc => h c (List.mem_cons_of_mem _ hc)) (by simp)
theorem dec_enc : ∀ (n : Nat) (r p : List UInt8) (ps : List (List UInt8)), r.length ≤ n → dec r p = some ps → esc p ++ r = enc ps
  | n, [], p, ps, _, h => by
    rw [dec_nil] at h
    split at h
    · rename_i hp; subst hp; obtain rfl := Option.some.inj h; rfl
    · cases h
  | n, [c], p, ps, _, h => by rw [dec_one] at h; cases h
  | 0, c :: d :: r, p, ps, hn, h => by simp at hn
  | n + 1, c :: d :: r, p, ps, hn, h => by
    by_cases hc : c = 0
    · subst hc
      by_cases h1 : d = 255
      · subst h1
        rw [dec_ff] at h
        have := dec_enc n r _ ps (by simp at hn; omega) h
        rw [← this, esc_append]
        simp [esc, esc1]
      · by_cases h2 : d = 1
        · subst h2
          rw [dec_01] at h
          obtain ⟨qs, hq, rfl⟩ := Option.map_eq_some_iff.1 h
          have := dec_enc n r [] qs (by simp at hn; omega) hq
          have e : enc (p :: qs) = esc p ++ [0, 1] ++ enc qs := by simp [enc]
          rw [e, ← this]
          simp [esc]
        · rw [dec_bad h1 h2] at h; cases h
    · rw [dec_nz hc] at h
      have := dec_enc n (d :: r) _ ps (by simp at hn ⊢; omega) h
      rw [← this, esc_append]
      simp [esc, esc1, hc]
theorem dec_part : ∀ (q p s : List UInt8), s ≠ [] → dec (esc q ++ s) p = dec s (p ++ q)
  | [], p, s, _ => by simp [esc]
  | c :: q, p, s, hs => by
    have e : esc (c :: q) = esc1 c ++ esc q := by simp [esc]
    rw [e, List.append_assoc]
    obtain ⟨d, r, hd⟩ : ∃ d r, esc q ++ s = d :: r := by
      cases h' : esc q ++ s with
      | nil => simp at h'; exact absurd h'.2 hs
      | cons d r => exact ⟨d, r, rfl⟩
    by_cases hc : c = 0
    · subst hc
      show dec (0 :: 255 :: (esc q ++ s)) p = _
      rw [dec_ff, dec_part q _ s hs]; simp
    · have e1 : esc1 c = [c] := by simp [esc1, hc]
      rw [e1, hd]
      show dec (c :: d :: r) p = _
      rw [dec_nz hc, ← hd, dec_part q _ s hs]; simp
theorem dec_of_enc : ∀ ps : List (List UInt8), dec (enc ps) [] = some ps
  | [] => rfl
  | p :: ps => by
    have e : enc (p :: ps) = esc p ++ (0 :: 1 :: enc ps) := by simp [enc]
    rw [e, dec_part p [] _ (by simp), List.nil_append, dec_01, dec_of_enc ps]
    rfl
def parts (b : List UInt8) : List (List UInt8) × Int :=
  if 64 < b.length then ([], 6)
  else match dec b [] with
    | none => ([], 3)
    | some ps => if ps.length < 1 ∨ 8 < ps.length then ([], 3) else (ps, 0)
theorem esc_ge (s : List UInt8) : s.length ≤ (esc s).length := by
  induction s with
  | nil => simp
  | cons c s ih =>
    have e : esc (c :: s) = esc1 c ++ esc s := by simp [esc]
    rw [e, List.length_append, List.length_cons]
    have : 1 ≤ (esc1 c).length := by unfold esc1; split <;> simp
    omega
theorem enc_part_le : ∀ {ps : List (List UInt8)} {p : List UInt8}, p ∈ ps → p.length ≤ (enc ps).length
  | q :: ps, p, h => by
    have e : enc (q :: ps) = (esc q ++ [0, 1]) ++ enc ps := by simp [enc]
    rw [e, List.length_append]
    rcases List.mem_cons.1 h with rfl | h
    · have := esc_ge p; simp; omega
    · have := enc_part_le h; omega
theorem parts_ok {b : List UInt8} (h : (parts b).2 = 0) : dec b [] = some (parts b).1 ∧ b.length ≤ 64 ∧ 1 ≤ (parts b).1.length ∧ (parts b).1.length ≤ 8 := by
  unfold parts at h ⊢
  by_cases h1 : 64 < b.length
  · rw [if_pos h1] at h; cases h
  · rw [if_neg h1] at h ⊢
    cases hd : dec b [] with
    | none => rw [hd] at h; cases h
    | some ps =>
      rw [hd] at h
      simp only at h ⊢
      by_cases h2 : ps.length < 1 ∨ 8 < ps.length
      · rw [if_pos h2] at h; cases h
      · rw [if_neg h2] at h ⊢
        exact ⟨rfl, by omega, by simp only; omega, by simp only; omega⟩
theorem key_parts {b : List UInt8} (h : (parts b).2 = 0) : key (parts b).1 = (b, 0) := by
  obtain ⟨h1, h2, h3, h4⟩ := parts_ok h
  have he := dec_enc b.length b [] _ (Nat.le_refl _) h1
  have he : enc (parts b).1 = b := he.symm
  rw [key_done (by omega) (fun j hj => ?_), if_neg (by rw [he]; omega), he]
  have := enc_part_le (ps := (parts b).1) (p := (parts b).1.getD j []) (by rw [List.getD_eq_getElem?_getD, List.getElem?_eq_getElem hj]; exact List.getElem_mem hj)
  rw [he] at this
  omega
theorem parts_key {ps : List (List UInt8)} (h : (key ps).2 = 0) : parts (key ps).1 = (ps, 0) := by
  have hl : ¬ (ps.length < 1 ∨ 8 < ps.length) := by
    intro h1
    rw [key_range h1] at h; cases h
  obtain ⟨h1, h2⟩ := key_ok h
  unfold parts
  rw [h1, if_neg (by omega), dec_of_enc]
  simp only
  rw [if_neg hl]
theorem parts_short (b : List UInt8) : (parts b).1.length ≤ 8 := by
  unfold parts
  split
  · simp
  · split
    · simp
    · split
      · simp
      · simp only; omega
theorem bytesOf_bv (l : List UInt8) : Lib.bytesOf (l.map fun b => (b.toNat : Int)) = l := by
  induction l with
  | nil => rfl
  | cons c l ih =>
    have : Lib.bytesOf ((c :: l).map fun b => (b.toNat : Int)) = ((c.toNat : Int).toNat.toUInt8) :: Lib.bytesOf (l.map fun b => (b.toNat : Int)) := rfl
    rw [this, ih]; simp
theorem IndexByte_spec (h : sat E w H) {v : Value} {l : List UInt8} (hv : Rds H v l.length (l.map bv)) (k : K (.int .i64 (Lib.indexByte l 0)) w) : Calls prog 41 #[v, .int .u8 0] w (Ret K) := by
  obtain ⟨a, c, rfl, hc, hv, hn⟩ := hv.shape h
  refine c41 ?_
  unfold B41
  refine ef_of (v := .int .i64 (Lib.indexByte l 0)) (w' := w) ?_ k
  have h1 : (oCall (.func (.func 62) #[] #[]) #[.slice a l.length c, .int .u8 0]).run prog w = (vN (Extern.BytealgIndexByte.indexByte #[.slice a l.length c, .int .u8 0])).run prog w := by kernel_rfl
  rw [h1]
  refine vN_run ?_
  rcases hv.win h with h0 | ⟨b, o, cs, e, fr, rfl, hb, hx⟩
  · have hl : l = [] := by simpa using h0
    subst hl
    cases a with
    | none => exact Lib.run_indexByteNil w 0 c 0
    | some a =>
      obtain ⟨b, o, sp⟩ := a
      exact Lib.run_indexByteString (P := prog) .empty 0 w
  · have := Lib.run_indexByteSlice (P := prog) w b o l.length c (l.map fun b => (b.toNat : Int)) (by simp) (fun i hi => by
      refine cell_of hb (hx i _ ?_)
      rw [List.getElem?_map, List.getElem?_eq_getElem hi]
      simp [bv, List.getD_eq_getElem?_getD, hi]) 0
    rw [bytesOf_bv] at this
    exact this
end Go.Proofs.YtnkmgkilfkgfhaaDoor
