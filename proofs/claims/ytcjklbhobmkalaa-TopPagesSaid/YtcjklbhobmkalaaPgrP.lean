/-
  A cache of pages, plainly: what it holds, what its calls do. No program in sight.
-/
import Derived.Test.YtcjklbhobmkalaaWalV
set_option linter.all false
set_option maxRecDepth 100000
namespace Go.Proofs.Ytcjklbhobmkalaa
open Go Hold
/-! ### Maps from numbers to bytes -/
def putB : List (Int × Bs) → Int → Bs → List (Int × Bs)
  | [], k, v => [(k, v)]
  | x :: r, k, v => if k = x.1 then (k, v) :: r else x :: putB r k v
def lookB : List (Int × Bs) → Int → Option Bs
  | [], _ => none
  | x :: r, k => if k = x.1 then some x.2 else lookB r k
def delB : List (Int × Bs) → Int → List (Int × Bs)
  | [], _ => []
  | x :: r, k => if k = x.1 then r else x :: delB r k
theorem lookB_put (k : Int) (v : Bs) (k' : Int) : ∀ l, lookB (putB l k v) k' = if k' = k then some v else lookB l k'
  | [] => by simp [putB, lookB]
  | x :: r => by
    have ih := lookB_put k v k' r
    unfold putB
    by_cases h : k = x.1
    · subst h
      rw [if_pos rfl]
      simp only [lookB]
      split <;> simp_all
    · rw [if_neg h]
      simp only [lookB, ih]
      by_cases h1 : k' = x.1
      · rw [if_pos h1, if_neg (by omega), if_pos h1]
      · rw [if_neg h1, if_neg h1]
theorem putB_mem {k : Int} {v : Bs} {y : Int × Bs} : ∀ {l}, y ∈ putB l k v → y = (k, v) ∨ y ∈ l
  | [], h => by simp [putB] at h; exact .inl h
  | x :: r, h => by
    unfold putB at h
    split at h
    · rcases List.mem_cons.1 h with h | h
      · exact .inl h
      · exact .inr (List.mem_cons_of_mem _ h)
    · rcases List.mem_cons.1 h with h | h
      · exact .inr (by simp [h])
      · exact (putB_mem h).imp id (List.mem_cons_of_mem _)
theorem putB_keys {k : Int} {v : Bs} {n : Int} : ∀ {l : List (Int × Bs)}, n ∈ (putB l k v).map (·.1) ↔ n = k ∨ n ∈ l.map (·.1)
  | [] => by simp [putB]
  | x :: r => by
    have ih := putB_keys (k := k) (v := v) (n := n) (l := r)
    unfold putB
    split
    · rename_i e
      simp only [List.map_cons, List.mem_cons, e]
      constructor
      · rintro (h | h)
        · exact .inl h
        · exact .inr (.inr h)
      · rintro (h | h | h)
        · exact .inl h
        · exact .inl h
        · exact .inr h
    · simp only [List.map_cons, List.mem_cons, ih]
      constructor
      · rintro (h | h | h)
        · exact .inr (.inl h)
        · exact .inl h
        · exact .inr (.inr h)
      · rintro (h | h | h)
        · exact .inr (.inl h)
        · exact .inl h
        · exact .inr (.inr h)
theorem putB_nodup {k : Int} {v : Bs} : ∀ {l : List (Int × Bs)}, (l.map (·.1)).Nodup → ((putB l k v).map (·.1)).Nodup
  | [], _ => by simp [putB]
  | x :: r, h => by
    rw [List.map_cons, List.nodup_cons] at h
    unfold putB
    split
    · rename_i e
      rw [List.map_cons, List.nodup_cons]
      exact ⟨by rw [e]; exact h.1, h.2⟩
    · rename_i e
      rw [List.map_cons, List.nodup_cons]
      refine ⟨fun hm => ?_, putB_nodup h.2⟩
      rcases putB_keys.1 hm with h1 | h1
      · exact e h1.symm
      · exact h.1 h1
theorem putB_len {k : Int} {v : Bs} : ∀ {l : List (Int × Bs)}, (putB l k v).length = if k ∈ l.map (·.1) then l.length else l.length + 1
  | [] => by simp [putB]
  | x :: r => by
    have ih := putB_len (k := k) (v := v) (l := r)
    unfold putB
    by_cases e : k = x.1
    · rw [if_pos e, if_pos (by simp [e])]; rfl
    · rw [if_neg e, List.length_cons, ih]
      simp only [List.map_cons, List.mem_cons, e, false_or, List.length_cons]
      split <;> rfl
theorem lookB_mem {k : Int} {v : Bs} : ∀ {l}, lookB l k = some v → (k, v) ∈ l
  | [], h => by simp [lookB] at h
  | x :: r, h => by
    unfold lookB at h
    split at h
    · rename_i e
      have : x.2 = v := by simpa using h
      subst this; subst e
      simp
    · exact List.mem_cons_of_mem _ (lookB_mem h)
theorem lookB_none {k : Int} : ∀ {l : List (Int × Bs)}, lookB l k = none ↔ k ∉ l.map (·.1)
  | [] => by simp [lookB]
  | x :: r => by
    have ih := lookB_none (k := k) (l := r)
    unfold lookB
    by_cases e : k = x.1
    · rw [if_pos e]; simp [e]
    · rw [if_neg e, ih]; simp [e]
theorem lookB_of {k : Int} {v : Bs} : ∀ {l : List (Int × Bs)}, (l.map (·.1)).Nodup → (k, v) ∈ l → lookB l k = some v
  | [], _, h => by simp at h
  | x :: r, hn, h => by
    rw [List.map_cons, List.nodup_cons] at hn
    unfold lookB
    rcases List.mem_cons.1 h with h | h
    · rw [← h, if_pos rfl]
    · have : k ≠ x.1 := fun e => hn.1 (by rw [← e]; exact List.mem_map_of_mem (f := (·.1)) h)
      rw [if_neg this]
      exact lookB_of hn.2 h
theorem lookB_perm {k : Int} {l m : List (Int × Bs)} (h : l.Perm m) (hn : (l.map (·.1)).Nodup) : lookB l k = lookB m k := by
  have hm : (m.map (·.1)).Nodup := ((h.map (·.1)).nodup_iff).1 hn
  cases e : lookB l k with
  | none =>
    have := lookB_none.1 e
    exact (lookB_none.2 (fun hk => this ((h.map (·.1)).mem_iff.2 hk))).symm
  | some v => exact (lookB_of hm (h.mem_iff.1 (lookB_mem e))).symm
theorem delB_keys {k n : Int} : ∀ {l : List (Int × Bs)}, (l.map (·.1)).Nodup → (n ∈ (delB l k).map (·.1) ↔ n ≠ k ∧ n ∈ l.map (·.1))
  | [], _ => by simp [delB]
  | x :: r, h => by
    rw [List.map_cons, List.nodup_cons] at h
    unfold delB
    split
    · rename_i e
      simp only [List.map_cons, List.mem_cons]
      constructor
      · intro hn
        exact ⟨fun e2 => h.1 (by rw [← e, ← e2]; exact hn), .inr hn⟩
      · rintro ⟨h1, h2 | h2⟩
        · exact absurd (h2.trans e.symm) h1
        · exact h2
    · rename_i e
      simp only [List.map_cons, List.mem_cons, delB_keys h.2]
      constructor
      · rintro (h1 | h1)
        · exact ⟨fun e2 => e (e2.symm.trans h1), .inl h1⟩
        · exact ⟨h1.1, .inr h1.2⟩
      · rintro ⟨h1, h2 | h2⟩
        · exact .inl h2
        · exact .inr ⟨h1, h2⟩
theorem delB_mem {k : Int} {y : Int × Bs} : ∀ {l}, y ∈ delB l k → y ∈ l
  | [], h => by simp [delB] at h
  | x :: r, h => by
    unfold delB at h
    split at h
    · exact List.mem_cons_of_mem _ h
    · rcases List.mem_cons.1 h with h | h
      · exact h ▸ List.mem_cons_self
      · exact List.mem_cons_of_mem _ (delB_mem h)
theorem delB_nodup {k : Int} : ∀ {l : List (Int × Bs)}, (l.map (·.1)).Nodup → ((delB l k).map (·.1)).Nodup
  | [], _ => by simp [delB]
  | x :: r, h => by
    have h0 := h
    rw [List.map_cons, List.nodup_cons] at h
    unfold delB
    split
    · exact h.2
    · rw [List.map_cons, List.nodup_cons]
      exact ⟨fun hm => h.1 ((delB_keys h.2).1 hm).2, delB_nodup h.2⟩
theorem lookB_del {k n : Int} {l : List (Int × Bs)} (hn : (l.map (·.1)).Nodup) (h : n ≠ k) : lookB (delB l k) n = lookB l n := by
  cases e : lookB l n with
  | none => exact lookB_none.2 fun hm => lookB_none.1 e ((delB_keys hn).1 hm).2
  | some v =>
    have hk : n ∈ (delB l k).map (·.1) := (delB_keys hn).2 ⟨h, List.mem_map_of_mem (f := (·.1)) (lookB_mem e)⟩
    obtain ⟨y, hy, e2⟩ := List.mem_map.1 hk
    have h1 := lookB_of hn (show (y.1, y.2) ∈ l from delB_mem hy)
    rw [show y.1 = n from e2, e] at h1
    have h2 := lookB_of (delB_nodup hn) (show (y.1, y.2) ∈ delB l k from hy)
    rw [show y.1 = n from e2] at h2
    rw [h2, h1]
/-! ### What is read behind a group -/
theorem lookA_putN {k : Int} : ∀ (ns : List Int) (a : List (Int × Int)) (u : Nat), ns.Nodup → (k ∉ ns → lookA (putN a u ns) k = lookA a k) ∧ (∀ i, ns[i]? = some k → lookA (putN a u ns) k = some ((u + i : Nat) : Int))
  | [], a, u, _ => ⟨fun _ => rfl, fun i h => by simp at h⟩
  | n :: ns, a, u, hn => by
    rw [List.nodup_cons] at hn
    obtain ⟨h1, h2⟩ := lookA_putN ns (putA a n u) (u + 1) hn.2
    simp only [putN]
    constructor
    · intro hk
      simp only [List.mem_cons, not_or] at hk
      rw [h1 hk.2, lookA_put, if_neg hk.1]
    · intro i hi
      cases i with
      | zero =>
        simp at hi; subst hi
        rw [h1 hn.1, lookA_put, if_pos rfl, Nat.add_zero]
      | succ i =>
        rw [h2 i (by simpa using hi), show u + 1 + i = u + (i + 1) by omega]
theorem LInv.commit_view {S : Lg} {gs : List (List Int)} (h : LInv S gs) {ps : List (Int × Bs)} (t : Taken S ps) {n : Nat} (hn : n < S.pages) : (commitT S ps).view n = (lookB ps n).getD (S.view n) := by
  have h1 := h.sz; have h2 := t.fit; have h3 := t.n1
  have ha : (commitT S ps).a = putN S.a (S.used + 2) ((sortP ps).map (·.1)) := by
    show (stepP _ _ _).a = _
    rw [stepP_a]; rfl
  have hnd : ((sortP ps).map (·.1)).Nodup := (((sortP_perm ps).map (·.1)).nodup_iff).2 t.form.1
  obtain ⟨g1, g2⟩ := lookA_putN (k := (n : Int)) ((sortP ps).map (·.1)) S.a (S.used + 2) hnd
  have hm := midT_at S ps (by omega)
  have hc : ∀ j, 1 ≤ j → (commitT S ps).L[j]? = (midT S ps).L[j]? := fun j hj => by
    rw [commitT_mid]
    show ((midT S ps).L.set 0 _)[j]? = _
    rw [List.getElem?_set_ne (by omega)]
  have hpl : ∀ x, lookA (commitT S ps).a n = x → (commitT S ps).place n = match x with | some v => v.toNat | none => S.size + 1 + n := fun x hx => by
    unfold Lg.place
    rw [hx, commitT_size]
    cases x <;> rfl
  by_cases hk : (n : Int) ∈ (sortP ps).map (·.1)
  · obtain ⟨i, hi, ei⟩ := List.mem_iff_getElem.1 hk
    have hi2 : i < (sortP ps).length := by simpa using hi
    have hgi : ((sortP ps).map (·.1))[i]? = some (n : Int) := by rw [List.getElem?_eq_getElem hi, ei]
    have e1 := hpl _ (by rw [ha, g2 i hgi])
    simp only [Int.toNat_natCast] at e1
    have hlb : lookB ps n = some (sortP ps)[i].2 := by
      refine lookB_of t.form.1 ((sortP_perm ps).mem_iff.1 ?_)
      have : ((n : Int), (sortP ps)[i].2) = (sortP ps)[i] := by
        rw [← ei, List.getElem_map]
      rw [this]; exact List.getElem_mem _
    rw [hlb, Option.getD_some]
    unfold Lg.view
    rw [e1, List.getD_eq_getElem?_getD, hc _ (by omega), hm, if_pos ⟨by omega, by rw [sortP_length] at hi2; omega⟩, show S.used + 2 + i - (S.used + 2) = i by omega, List.getElem?_eq_getElem hi2]
    rfl
  · have hlb : lookB ps n = none := lookB_none.2 fun hh => hk (((sortP_perm ps).map (·.1)).mem_iff.2 hh)
    rw [hlb, Option.getD_none]
    have e1 : (commitT S ps).place n = S.place n := by
      rw [hpl _ (by rw [ha, g1 hk])]
      unfold Lg.place
      cases lookA S.a n <;> rfl
    unfold Lg.view
    rw [e1, List.getD_eq_getElem?_getD, List.getD_eq_getElem?_getD]
    rcases h.plc hn with hp | hp
    · rw [hc _ (by omega), hm, if_neg (by omega), if_neg (by omega)]
    · rw [hc _ (by omega), hm, if_neg (by omega), if_neg (by omega)]
/-! ### The cache -/
structure Pg where
  S : Lg
  most : Nat
  dirty : List (Int × Bs)
  clean : List (Int × Bs)
  row : List Int
  pins : List Int
  hits : Nat
  misses : Nat
structure POk (P : Pg) (gs : List (List Int)) : Prop where
  i : LInv P.S gs
  dn : (P.dirty.map (·.1)).Nodup
  da : ∀ x ∈ P.dirty, (0 ≤ x.1 ∧ x.1 < P.S.pages) ∧ x.2.length = 256
  dl : P.dirty.length ≤ 100
  cn : (P.clean.map (·.1)).Nodup
  ca : ∀ x ∈ P.clean, (0 ≤ x.1 ∧ x.1 < P.S.pages) ∧ x.2 = P.S.view x.1.toNat
  cd : ∀ x ∈ P.clean, x.1 ∉ P.dirty.map (·.1)
  rn : P.row.Nodup
  rc : ∀ n, n ∈ P.row ↔ n ∈ P.clean.map (·.1)
  rl : P.row.length ≤ P.most
  pn : P.pins.Nodup
  pl : P.pins.length ≤ P.most
  m1 : 1 ≤ P.most
  m2 : P.most ≤ 64
def dropP (P : Pg) (n : Int) : Pg := { P with row := P.row.filter fun k => !decide (k = n), clean := delB P.clean n }
def lookE (P : Pg) (n : Int) : Int := if n < 0 ∨ (P.S.pages : Int) ≤ n then 2 else 0
def useB (P : Pg) (n : Int) : Bs := (lookB P.clean n).getD (P.S.view n.toNat)
def use1 (P : Pg) (n : Int) : Pg := if (lookB P.clean n).isSome then { P with hits := P.hits + 1 } else { P with misses := P.misses + 1 }
def use2 (P : Pg) (n : Int) : Pg :=
  let P1 := dropP (use1 P n) n
  { P1 with row := P1.row ++ [n], clean := putB P1.clean n (useB P n) }
def useP (P : Pg) (n : Int) : Pg :=
  if P.most < (use2 P n).row.length then
    match (use2 P n).row.find? fun k => !decide (k ∈ P.pins) with
    | some k => dropP (use2 P n) k
    | none => use2 P n
  else use2 P n
def readB (P : Pg) (n : Int) : Bs := match lookB P.dirty n with
  | some b => b
  | none => useB P n
def readP (P : Pg) (n : Int) : Pg := if lookE P n = 0 then (if (lookB P.dirty n).isSome then P else useP P n) else P
def writeE (P : Pg) (n : Int) (b : Bs) : Int := if lookE P n ≠ 0 then 2 else if b.length ≠ 256 then 3 else if n ∉ P.dirty.map (·.1) ∧ 100 ≤ P.dirty.length then 6 else 0
def writeT (P : Pg) (n : Int) (b : Bs) : Pg :=
  let P1 := dropP { P with dirty := putB P.dirty n b } n
  { P1 with pins := P1.pins.filter fun k => !decide (k = n) }
def writeP (P : Pg) (n : Int) (b : Bs) : Pg := if writeE P n b = 0 then writeT P n b else P
def comS (S : Lg) (ps : List (Int × Bs)) : Lg := if errC S ps = 7 then commitS (checkS S) ps else commitS S ps
def comE (S : Lg) (ps : List (Int × Bs)) : Int := if errC S ps = 7 then errC (checkS S) ps else errC S ps
def comP (P : Pg) : Pg := { P with S := comS P.S P.dirty, dirty := if comE P.S P.dirty = 0 then [] else P.dirty }
def abortP (P : Pg) : Pg := { P with dirty := [] }
theorem filter_nodup {l : List Int} (n : Int) (h : l.Nodup) : (l.filter fun k => !decide (k = n)).Nodup := h.sublist List.filter_sublist
theorem filter_mem {l : List Int} {n k : Int} : k ∈ (l.filter fun k => !decide (k = n)) ↔ k ≠ n ∧ k ∈ l := by
  rw [List.mem_filter]
  simp only [Bool.not_eq_true', decide_eq_false_iff_not]
  exact And.comm
theorem filter_less {l : List Int} {n : Int} (h : n ∈ l) : (l.filter fun k => !decide (k = n)).length < l.length := by
  induction l with
  | nil => simp at h
  | cons x l ih =>
    rw [List.filter_cons]
    by_cases e : x = n
    · rw [if_neg (by simp [e])]
      have := List.length_filter_le (fun k => !decide (k = n)) l
      simp only [List.length_cons]; omega
    · rw [if_pos (by simp [e])]
      have := ih (by rcases List.mem_cons.1 h with h | h; exact absurd h.symm e; exact h)
      simp only [List.length_cons]; omega
theorem POk.dropC {P : Pg} {gs : List (List Int)} (h : POk P gs) (n : Int) :
    (delB P.clean n).map (·.1) |>.Nodup := delB_nodup h.cn
theorem POk.drop {P : Pg} {gs : List (List Int)} (h : POk P gs) (n : Int) : POk (dropP P n) gs := by
  refine ⟨h.i, h.dn, h.da, h.dl, delB_nodup h.cn, fun x hx => h.ca x (delB_mem hx), fun x hx => h.cd x (delB_mem hx), filter_nodup n h.rn, fun k => ?_, Nat.le_trans (List.length_filter_le _ _) h.rl, h.pn, h.pl, h.m1, h.m2⟩
  show k ∈ (P.row.filter fun k => !decide (k = n)) ↔ k ∈ (delB P.clean n).map (·.1)
  rw [filter_mem, delB_keys h.cn, h.rc]
theorem POk.useB {P : Pg} {gs : List (List Int)} (h : POk P gs) {n : Int} (h0 : 0 ≤ n) : useB P n = P.S.view n.toNat := by
  unfold Go.Proofs.Ytcjklbhobmkalaa.useB
  cases e : lookB P.clean n with
  | none => rfl
  | some b => exact (h.ca _ (lookB_mem e)).2
theorem pins_room {P : Pg} {gs : List (List Int)} (h : POk P gs) {l : List Int} (hn : l.Nodup) (hl : P.most < l.length) : ∃ k, (l.find? fun k => !decide (k ∈ P.pins)) = some k := by
  cases e : l.find? fun k => !decide (k ∈ P.pins) with
  | some k => exact ⟨k, rfl⟩
  | none =>
    exfalso
    have hall : ∀ k ∈ l, k ∈ P.pins := fun k hk => by
      have := List.find?_eq_none.1 e k hk
      simpa using this
    have key : ∀ (a b : List Int), a.Nodup → (∀ k ∈ a, k ∈ b) → a.length ≤ b.length := by
      intro a
      induction a with
      | nil => intro b _ _; simp
      | cons x a ih =>
        intro b hn hs
        rw [List.nodup_cons] at hn
        have hx := hs x (by simp)
        have h1 := ih (b.filter fun k => !decide (k = x)) hn.2 fun k hk => filter_mem.2 ⟨fun e => hn.1 (e ▸ hk), hs k (by simp [hk])⟩
        have h2 := filter_less hx
        simp only [List.length_cons]; omega
    have := key l P.pins hn hall
    have := h.pl
    omega
theorem POk.use2 {P : Pg} {gs : List (List Int)} (h : POk P gs) {n : Int} (h0 : 0 ≤ n) (h1 : n < P.S.pages) (hd : n ∉ P.dirty.map (·.1)) (hl : (use2 P n).row.length ≤ P.most) : POk (use2 P n) gs := by
  have e1 : (use1 P n).clean = P.clean ∧ (use1 P n).row = P.row ∧ (use1 P n).S = P.S ∧ (use1 P n).dirty = P.dirty ∧ (use1 P n).pins = P.pins ∧ (use1 P n).most = P.most := by
    unfold use1; split <;> exact ⟨rfl, rfl, rfl, rfl, rfl, rfl⟩
  obtain ⟨c1, c2, c3, c4, c5, c6⟩ := e1
  have hc : (Go.Proofs.Ytcjklbhobmkalaa.use2 P n).clean = putB (delB P.clean n) n (Go.Proofs.Ytcjklbhobmkalaa.useB P n) := by show putB (delB (use1 P n).clean n) n _ = _; rw [c1]
  have hr : (Go.Proofs.Ytcjklbhobmkalaa.use2 P n).row = (P.row.filter fun k => !decide (k = n)) ++ [n] := by show ((use1 P n).row.filter _) ++ [n] = _; rw [c2]
  have hS : (Go.Proofs.Ytcjklbhobmkalaa.use2 P n).S = P.S := c3
  have hD : (Go.Proofs.Ytcjklbhobmkalaa.use2 P n).dirty = P.dirty := c4
  have hP : (Go.Proofs.Ytcjklbhobmkalaa.use2 P n).pins = P.pins := c5
  have hM : (Go.Proofs.Ytcjklbhobmkalaa.use2 P n).most = P.most := c6
  refine ⟨by rw [hS]; exact h.i, by rw [hD]; exact h.dn, by rw [hD, hS]; exact h.da, by rw [hD]; exact h.dl, ?_, ?_, ?_, ?_, ?_, by rw [hM]; exact hl, by rw [hP]; exact h.pn, by rw [hP, hM]; exact h.pl, by rw [hM]; exact h.m1, by rw [hM]; exact h.m2⟩
  · rw [hc]; exact putB_nodup (delB_nodup h.cn)
  · rw [hc, hS]
    intro x hx
    rcases putB_mem hx with rfl | hx
    · exact ⟨⟨h0, h1⟩, h.useB h0⟩
    · exact h.ca x (delB_mem hx)
  · rw [hc, hD]
    intro x hx
    rcases putB_mem hx with rfl | hx
    · exact hd
    · exact h.cd x (delB_mem hx)
  · rw [hr, List.nodup_append]
    refine ⟨filter_nodup n h.rn, by simp, fun a ha b hb e => ?_⟩
    simp only [List.mem_singleton] at hb
    exact (filter_mem.1 ha).1 (e.trans hb)
  · intro k
    rw [hr, hc, putB_keys, delB_keys h.cn, List.mem_append, filter_mem, h.rc, List.mem_singleton]
    constructor
    · rintro (h | h)
      · exact .inr h
      · exact .inl h
    · rintro (h | h)
      · exact .inr h
      · exact .inl h
theorem use2_row {P : Pg} {n : Int} : (use2 P n).row = (P.row.filter fun k => !decide (k = n)) ++ [n] := by
  show ((use1 P n).row.filter _) ++ [n] = _
  unfold use1; split <;> rfl
theorem use2_same {P : Pg} {n : Int} : (use2 P n).S = P.S ∧ (use2 P n).dirty = P.dirty ∧ (use2 P n).pins = P.pins ∧ (use2 P n).most = P.most := by
  unfold use2 dropP use1; split <;> exact ⟨rfl, rfl, rfl, rfl⟩
theorem useP_same {P : Pg} {n : Int} : (useP P n).S = P.S ∧ (useP P n).dirty = P.dirty ∧ (useP P n).pins = P.pins ∧ (useP P n).most = P.most := by
  unfold useP
  split
  · split
    · exact use2_same (P := P) (n := n)
    · exact use2_same
  · exact use2_same
theorem POk.useP {P : Pg} {gs : List (List Int)} (h : POk P gs) {n : Int} (h0 : 0 ≤ n) (h1 : n < P.S.pages) (hd : n ∉ P.dirty.map (·.1)) : POk (useP P n) gs := by
  unfold Go.Proofs.Ytcjklbhobmkalaa.useP
  by_cases hl : P.most < (Go.Proofs.Ytcjklbhobmkalaa.use2 P n).row.length
  · rw [if_pos hl]
    have hrn : (Go.Proofs.Ytcjklbhobmkalaa.use2 P n).row.Nodup := by
      rw [use2_row, List.nodup_append]
      refine ⟨filter_nodup n h.rn, by simp, fun a ha b hb e => ?_⟩
      simp only [List.mem_singleton] at hb
      exact (filter_mem.1 ha).1 (e.trans hb)
    obtain ⟨k, hk⟩ := pins_room h hrn hl
    rw [hk]
    -- as if there were room for one more
    have h' : POk { P with most := P.most + 1 } gs → True := fun _ => trivial
    have hlen : (Go.Proofs.Ytcjklbhobmkalaa.use2 P n).row.length ≤ P.most + 1 := by
      rw [use2_row, List.length_append]
      have := List.length_filter_le (fun k => !decide (k = n)) P.row
      have := h.rl
      simp only [List.length_cons, List.length_nil]; omega
    have hmem : k ∈ (Go.Proofs.Ytcjklbhobmkalaa.use2 P n).row := List.mem_of_find?_eq_some hk
    have hless := filter_less hmem
    obtain ⟨s1, s2, s3, s4⟩ := use2_same (P := P) (n := n)
    have e1 : (Go.Proofs.Ytcjklbhobmkalaa.use2 P n).clean = putB (delB P.clean n) n (Go.Proofs.Ytcjklbhobmkalaa.useB P n) := by
      show putB (delB (use1 P n).clean n) n _ = _
      unfold use1; split <;> rfl
    have hcn : ((Go.Proofs.Ytcjklbhobmkalaa.use2 P n).clean.map (·.1)).Nodup := by rw [e1]; exact putB_nodup (delB_nodup h.cn)
    refine ⟨by show LInv (Go.Proofs.Ytcjklbhobmkalaa.use2 P n).S gs; rw [s1]; exact h.i, by show ((Go.Proofs.Ytcjklbhobmkalaa.use2 P n).dirty.map _).Nodup; rw [s2]; exact h.dn, ?_, by show (Go.Proofs.Ytcjklbhobmkalaa.use2 P n).dirty.length ≤ 100; rw [s2]; exact h.dl, delB_nodup hcn, ?_, ?_, filter_nodup k hrn, ?_, ?_, by show (Go.Proofs.Ytcjklbhobmkalaa.use2 P n).pins.Nodup; rw [s3]; exact h.pn, by show (Go.Proofs.Ytcjklbhobmkalaa.use2 P n).pins.length ≤ (Go.Proofs.Ytcjklbhobmkalaa.use2 P n).most; rw [s3, s4]; exact h.pl, by show 1 ≤ (Go.Proofs.Ytcjklbhobmkalaa.use2 P n).most; rw [s4]; exact h.m1, by show (Go.Proofs.Ytcjklbhobmkalaa.use2 P n).most ≤ 64; rw [s4]; exact h.m2⟩
    · intro x hx
      have hx : x ∈ (Go.Proofs.Ytcjklbhobmkalaa.use2 P n).dirty := hx
      rw [s2] at hx
      show (_ ∧ x.1 < ((Go.Proofs.Ytcjklbhobmkalaa.use2 P n).S.pages : Int)) ∧ _
      rw [s1]; exact h.da x hx
    · intro x hx
      have hx : x ∈ (Go.Proofs.Ytcjklbhobmkalaa.use2 P n).clean := delB_mem hx
      show (_ ∧ x.1 < ((Go.Proofs.Ytcjklbhobmkalaa.use2 P n).S.pages : Int)) ∧ x.2 = (Go.Proofs.Ytcjklbhobmkalaa.use2 P n).S.view _
      rw [e1] at hx
      rw [s1]
      rcases putB_mem hx with rfl | hx
      · exact ⟨⟨h0, h1⟩, h.useB h0⟩
      · exact h.ca x (delB_mem hx)
    · intro x hx
      have hx : x ∈ (Go.Proofs.Ytcjklbhobmkalaa.use2 P n).clean := delB_mem hx
      show x.1 ∉ (Go.Proofs.Ytcjklbhobmkalaa.use2 P n).dirty.map _
      rw [e1] at hx
      rw [s2]
      rcases putB_mem hx with rfl | hx
      · exact hd
      · exact h.cd x (delB_mem hx)
    · intro j
      show j ∈ ((Go.Proofs.Ytcjklbhobmkalaa.use2 P n).row.filter _) ↔ j ∈ (delB (Go.Proofs.Ytcjklbhobmkalaa.use2 P n).clean k).map _
      rw [filter_mem, delB_keys hcn, e1, putB_keys, delB_keys h.cn, use2_row, List.mem_append, filter_mem, h.rc, List.mem_singleton]
      constructor
      · rintro ⟨a, b | b⟩
        · exact ⟨a, .inr b⟩
        · exact ⟨a, .inl b⟩
      · rintro ⟨a, b | b⟩
        · exact ⟨a, .inr b⟩
        · exact ⟨a, .inl b⟩
    · show ((Go.Proofs.Ytcjklbhobmkalaa.use2 P n).row.filter _).length ≤ (Go.Proofs.Ytcjklbhobmkalaa.use2 P n).most
      rw [s4]; omega
  · rw [if_neg hl]
    exact h.use2 h0 h1 hd (by omega)
theorem writeE_zero {P : Pg} {n : Int} {b : Bs} (he : writeE P n b = 0) : (0 ≤ n ∧ n < P.S.pages) ∧ b.length = 256 ∧ ¬ (n ∉ P.dirty.map (·.1) ∧ 100 ≤ P.dirty.length) := by
  unfold writeE at he
  by_cases h1 : lookE P n ≠ 0
  · rw [if_pos h1] at he; exact absurd he (by decide)
  rw [if_neg h1] at he
  by_cases h2 : b.length ≠ 256
  · rw [if_pos h2] at he; exact absurd he (by decide)
  rw [if_neg h2] at he
  by_cases h3 : n ∉ P.dirty.map (·.1) ∧ 100 ≤ P.dirty.length
  · rw [if_pos h3] at he; exact absurd he (by decide)
  refine ⟨?_, by omega, h3⟩
  have h1 : lookE P n = 0 := by simpa using h1
  unfold lookE at h1
  by_cases h4 : n < 0 ∨ (P.S.pages : Int) ≤ n
  · rw [if_pos h4] at h1; exact absurd h1 (by decide)
  · omega
theorem POk.write {P : Pg} {gs : List (List Int)} (h : POk P gs) {n : Int} {b : Bs} (he : writeE P n b = 0) : POk (writeT P n b) gs := by
  obtain ⟨h1, h2, h3⟩ := writeE_zero he
  refine ⟨h.i, putB_nodup h.dn, fun x hx => ?_, ?_, delB_nodup h.cn, fun x hx => h.ca x (delB_mem hx), fun x hx => ?_, filter_nodup n h.rn, fun k => ?_, Nat.le_trans (List.length_filter_le _ _) h.rl, filter_nodup n h.pn, Nat.le_trans (List.length_filter_le _ _) h.pl, h.m1, h.m2⟩
  · rcases putB_mem hx with rfl | hx
    · exact ⟨h1, h2⟩
    · exact h.da x hx
  · show (putB P.dirty n b).length ≤ 100
    rw [putB_len]
    split
    · exact h.dl
    · rename_i hh
      have : ¬ 100 ≤ P.dirty.length := fun e => h3 ⟨hh, e⟩
      omega
  · show x.1 ∉ (putB P.dirty n b).map _
    rw [putB_keys]
    have hx2 : x.1 ∈ (delB P.clean n).map (·.1) := List.mem_map_of_mem hx
    rintro (e | e)
    · exact ((delB_keys h.cn).1 hx2).1 e
    · exact h.cd x (delB_mem hx) e
  · show k ∈ (P.row.filter fun k => !decide (k = n)) ↔ k ∈ (delB P.clean n).map (·.1)
    rw [filter_mem, delB_keys h.cn, h.rc]
theorem POk.abort {P : Pg} {gs : List (List Int)} (h : POk P gs) : POk (abortP P) gs :=
  ⟨h.i, by simp [abortP], fun x hx => by simp [abortP] at hx, by simp [abortP], h.cn, h.ca, fun x _ => by simp [abortP], h.rn, h.rc, h.rl, h.pn, h.pl, h.m1, h.m2⟩
/-! ### Commits -/
theorem check_pages (S : Lg) : (checkS S).pages = S.pages := by
  unfold checkS; split
  · rfl
  · exact checkT_pages S
theorem check_size (S : Lg) : (checkS S).size = S.size := by
  unfold checkS; split
  · rfl
  · exact checkT_size S
theorem check_used0 (S : Lg) : (checkS S).used = 0 := by
  unfold checkS; split
  · assumption
  · rfl
theorem LInv.checkS {S : Lg} {gs : List (List Int)} (h : LInv S gs) : ∃ gs', LInv (checkS S) gs' := by
  unfold Go.Proofs.Ytcjklbhobmkalaa.checkS; split
  · exact ⟨gs, h⟩
  · exact ⟨[], h.check⟩
theorem LInv.checkS_view {S : Lg} {gs : List (List Int)} (h : LInv S gs) (n : Nat) : (Go.Proofs.Ytcjklbhobmkalaa.checkS S).view n = S.view n := by
  unfold Go.Proofs.Ytcjklbhobmkalaa.checkS; split
  · rfl
  · exact h.check_view n
theorem LInv.commitS {S : Lg} {gs : List (List Int)} (h : LInv S gs) (ps : List (Int × Bs)) : ∃ gs', LInv (commitS S ps) gs' := by
  unfold Go.Proofs.Ytcjklbhobmkalaa.commitS; split
  · rename_i hx; exact ⟨_, h.commit (errC_zero hx.1 hx.2)⟩
  · exact ⟨gs, h⟩
theorem commit_pages (S : Lg) (ps : List (Int × Bs)) : (commitS S ps).pages = S.pages := by
  unfold commitS; split
  · exact commitT_pages S ps
  · rfl
theorem commit_size (S : Lg) (ps : List (Int × Bs)) : (commitS S ps).size = S.size := by
  unfold commitS; split
  · exact commitT_size S ps
  · rfl
/-- What a group leaves to be read. -/
theorem LInv.commitS_view {S : Lg} {gs : List (List Int)} (h : LInv S gs) {ps : List (Int × Bs)} {n : Nat} (hn : n < S.pages) : (Go.Proofs.Ytcjklbhobmkalaa.commitS S ps).view n = if errC S ps = 0 then (lookB ps n).getD (S.view n) else S.view n := by
  unfold Go.Proofs.Ytcjklbhobmkalaa.commitS
  by_cases he : errC S ps = 0
  · rw [if_pos he]
    by_cases hz : ps = []
    · rw [if_neg (fun e => e.2 hz), hz]; rfl
    · rw [if_pos ⟨he, hz⟩]
      exact h.commit_view (errC_zero he hz) hn
  · rw [if_neg he, if_neg (fun e => he e.1)]
theorem LInv.com {S : Lg} {gs : List (List Int)} (h : LInv S gs) (ps : List (Int × Bs)) : ∃ gs', LInv (comS S ps) gs' := by
  unfold comS; split
  · obtain ⟨_, h'⟩ := h.checkS
    exact h'.commitS ps
  · exact h.commitS ps
theorem com_pages (S : Lg) (ps : List (Int × Bs)) : (comS S ps).pages = S.pages := by
  unfold comS; split
  · rw [commit_pages, check_pages]
  · exact commit_pages S ps
theorem com_size (S : Lg) (ps : List (Int × Bs)) : (comS S ps).size = S.size := by
  unfold comS; split
  · rw [commit_size, check_size]
  · exact commit_size S ps
theorem LInv.com_view {S : Lg} {gs : List (List Int)} (h : LInv S gs) {ps : List (Int × Bs)} {n : Nat} (hn : n < S.pages) : (comS S ps).view n = if comE S ps = 0 then (lookB ps n).getD (S.view n) else S.view n := by
  unfold comS comE
  by_cases h7 : errC S ps = 7
  · rw [if_pos h7, if_pos h7]
    obtain ⟨_, h'⟩ := h.checkS
    rw [h'.commitS_view (by rw [check_pages]; exact hn), h.checkS_view]
  · rw [if_neg h7, if_neg h7]
    exact h.commitS_view hn
theorem POk.com {P : Pg} {gs : List (List Int)} (h : POk P gs) : ∃ gs', POk (comP P) gs' := by
  obtain ⟨gs', i'⟩ := h.i.com P.dirty
  have hpg : (comP P).S.pages = P.S.pages := com_pages _ _
  have hsub : ∀ x ∈ (comP P).dirty, x ∈ P.dirty := fun x hx => by
    unfold comP at hx
    simp only at hx
    split at hx
    · cases hx
    · exact hx
  refine ⟨gs', i', ?_, fun x hx => by rw [hpg]; exact h.da x (hsub x hx), ?_, h.cn, fun x hx => ?_, fun x hx hd => ?_, h.rn, h.rc, h.rl, h.pn, h.pl, h.m1, h.m2⟩
  · unfold comP; simp only; split
    · simp
    · exact h.dn
  · unfold comP; simp only; split
    · simp
    · exact h.dl
  · have hx : x ∈ P.clean := hx
    have hc := h.ca x hx
    refine ⟨by rw [hpg]; exact hc.1, ?_⟩
    have hlt : x.1.toNat < P.S.pages := by omega
    show x.2 = (comS P.S P.dirty).view _
    rw [h.i.com_view hlt, hc.2]
    have hno : lookB P.dirty (x.1.toNat : Int) = none := lookB_none.2 (by rw [Int.toNat_of_nonneg hc.1.1]; exact h.cd x hx)
    rw [hno]
    split <;> rfl
  · obtain ⟨y, hy, e⟩ := List.mem_map.1 hd
    exact h.cd x hx (by rw [← e]; exact List.mem_map_of_mem (hsub y hy))
/-- A cache that is new. -/
def newP (S : Lg) (most : Nat) : Pg := ⟨S, most, [], [], [], [], 0, 0⟩
theorem newP_ok {S : Lg} {gs : List (List Int)} (i : LInv S gs) {most : Nat} (h1 : 1 ≤ most) (h2 : most ≤ 64) : POk (newP S most) gs :=
  ⟨i, by simp [newP], fun x hx => by simp [newP] at hx, by simp [newP], by simp [newP], fun x hx => by simp [newP] at hx, fun x hx => by simp [newP] at hx, by simp [newP], fun n => by simp [newP], by simp [newP], by simp [newP], by simp [newP], h1, h2⟩
/-- A page as it is now. -/
def Pg.page (P : Pg) (n : Nat) : Bs := (lookB P.dirty n).getD (P.S.view n)
theorem POk.readB {P : Pg} {gs : List (List Int)} (h : POk P gs) {n : Nat} : readB P n = P.page n := by
  unfold Go.Proofs.Ytcjklbhobmkalaa.readB Pg.page
  cases e : lookB P.dirty (n : Int) with
  | none =>
    rw [Option.getD_none]
    simp only
    rw [h.useB (by omega), Int.toNat_natCast]
  | some b => rfl
end Go.Proofs.Ytcjklbhobmkalaa
