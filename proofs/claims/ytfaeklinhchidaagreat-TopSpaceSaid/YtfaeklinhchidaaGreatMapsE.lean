/-
  Entries of a map that are made ahead of their values (assignments of several at once); two variables made in any order.
-/
import Derived.Test.YtfaeklinhchidaaGreatSortK
set_option linter.all false
namespace Hold
open Go
section
variable {P : Program} {E : World0} {w : World} {H R : HP} {K : Value → World → Prop}
theorem ents_at {k : Int} {v : Value} : ∀ {l : List (Int × Value)} {ns : List Nat} {y : Nat × Value}, ns.length = l.length → findM l k = some y →
    (ents l ns).modify y.1 (fun e => { e with val := v }) = ents (putM l k v) ns ∧ (ents l ns)[y.1]? = some { key := .int .i64 k, val := y.2, born := ns.getD y.1 0 } ∧ (ents l ns).modify y.1 (fun e => { e with key := .int .i64 k }) = ents l ns ∧ y.1 < ns.length ∧ (putM l k v).length = l.length
  | [], ns, y, h, hf => by cases hf
  | x :: l, [], y, h, hf => by cases h
  | x :: l, n :: ns, y, h, hf => by
    simp only [findM] at hf
    by_cases hk : k = x.1
    · rw [if_pos hk] at hf
      cases hf
      simp [ents, putM, hk]
    · rw [if_neg hk] at hf
      obtain ⟨y', hy', rfl⟩ := Option.map_eq_some_iff.1 hf
      obtain ⟨a1, a2, a3, a4, a5⟩ := ents_at (k := k) (v := v) (l := l) (ns := ns) (by simpa using h) hy'
      refine ⟨?_, ?_, ?_, ?_, ?_⟩
      · simp [ents, putM, hk, a1]
      · simp [ents, a2]
      · simp [ents, a3]
      · simp; omega
      · simp [putM, hk, a5]
theorem putM_again {k : Int} {z v : Value} : ∀ {l : List (Int × Value)}, putM (putM l k z) k v = putM l k v
  | [] => by simp [putM]
  | x :: l => by
    unfold putM
    by_cases h : k = x.1
    · simp [h, putM]
    · simp [h, putM, putM_again (l := l)]
theorem findM_of_put {k : Int} {z : Value} : ∀ {l : List (Int × Value)}, findM l k = none → findM (putM l k z) k = some (l.length, z)
  | [], _ => by simp [putM, findM]
  | x :: l, h => by
    simp only [findM] at h
    by_cases hk : k = x.1
    · rw [if_pos hk] at h; cases h
    · rw [if_neg hk, Option.map_eq_none_iff] at h
      simp [putM, findM, hk, findM_of_put h]
/-- A map in which the entry of k has the stamp n. -/
def omapE (b : Nat) (l : List (Int × Value)) (k : Int) (n : Nat) : HP :=
  ex fun q : List (Int × Value) × List Nat × Nat × (Nat × Value) => pur ((∀ v, putM q.1 k v = putM l k v) ∧ Stamps q.1 q.2.1 q.2.2.1 ∧ findM q.1 k = some q.2.2.2 ∧ q.2.1.getD q.2.2.2.1 0 = n) * pts b (.map (ents q.1 q.2.1).toArray q.2.2.1)
theorem sat_omapE {b : Nat} {l : List (Int × Value)} {k : Int} {n : Nat} : sat E w (omapE b l k n * R) ↔ ∃ l' ns c y, (∀ v, putM l' k v = putM l k v) ∧ Stamps l' ns c ∧ findM l' k = some y ∧ ns.getD y.1 0 = n ∧ sat E w (pts b (.map (ents l' ns).toArray c) * R) := by
  unfold omapE
  rw [sat_ex_star]
  constructor
  · rintro ⟨⟨l', ns, c, y⟩, h⟩
    simp only [star_assoc] at h
    rw [sat_pur_star] at h
    exact ⟨l', ns, c, y, h.1.1, h.1.2.1, h.1.2.2.1, h.1.2.2.2, h.2⟩
  · rintro ⟨l', ns, c, y, h1, h2, h3, h4, h5⟩
    refine ⟨(l', ns, c, y), ?_⟩
    simp only [star_assoc]
    rw [sat_pur_star]
    exact ⟨⟨h1, h2, h3, h4⟩, h5⟩
theorem entry_sl {t kt vt b : Nat} {l : List (Int × Value)} {k : Int} {z : Value} [i : Ul P t (.map kt vt)] [j : Ul P kt (.int .i64)] [q : ZeroC P vt z] (h : sat E w (omap b l * R))
    (kk : ∀ (u : Value) (n : Nat) w', sat E w' (omapE b l k n * R) → K (.tuple #[u, .int .i64 n]) w') : efv P (Instr.mapEntry t (.map (some b)) (.int .i64 k)) w K := by
  obtain ⟨ns, c, st, hp⟩ := sat_omap.1 h
  have hb := hp.pts_get
  have hf := run_findKey (P := P) (w := w) j.ul (k := k) st.len
  cases hx : findM l k with
  | none =>
    rw [hx] at hf
    obtain ⟨a1, a2⟩ := findM_add (v := z) (c := c) st.len hx
    refine efv_of (v := .tuple #[z, .int .i64 c]) (w' := w.putObj b (.map (ents (putM l k z) (ns ++ [c])).toArray (c + 1))) ?_ (kk _ _ _ (sat_omapE.2 ⟨putM l k z, ns ++ [c], c + 1, (l.length, z), fun v => putM_again, ⟨by simp [st.len, a2], ?_, ?_⟩, findM_of_put hx, ?_, hp.set _⟩))
    · rw [← a1]
      simp [Instr.mapEntry, run_underlying' i.ul, getObj_at hb, run_checkKey j.ul, hf, setObj_at hb, run_zero q, goInt]
    · refine List.nodup_append.2 ⟨st.nd, by simp, ?_⟩
      intro a ha b' hb' hab
      simp at hb'
      have := st.lt a ha
      omega
    · intro n hn
      rcases List.mem_append.1 hn with hn | hn
      · have := st.lt n hn; omega
      · simp at hn; omega
    · show (ns ++ [c]).getD l.length 0 = c
      rw [← st.len]; simp
  | some y =>
    rw [hx] at hf
    obtain ⟨a1, a2, a3, a4, a5⟩ := ents_at (v := z) st.len hx
    refine efv_of (v := .tuple #[y.2, .int .i64 (ns.getD y.1 0)]) (w' := w.putObj b (.map (ents l ns).toArray c)) ?_ (kk _ _ _ (sat_omapE.2 ⟨l, ns, c, y, fun v => rfl, st, hx, rfl, hp.set _⟩))
    have sb : Instr.sameBits 10000 (.int .i64 k) (.int .i64 k) = true := by unfold Instr.sameBits; simp
    simp [Instr.mapEntry, run_underlying' i.ul, getObj_at hb, run_checkKey j.ul, hf, setObj_at hb, Instr.keyThatStays, a2, sb, a3, goInt]
theorem ents_born_at {l : List (Int × Value)} {ns : List Nat} (h : ns.length = l.length) {j : Nat} (hj : j < (ents l ns).length) : (ents l ns)[j].born = ns.getD j 0 := by
  have e1 := ents_born h
  have : ((ents l ns).map (·.born))[j]? = ns[j]? := by rw [e1]
  rw [List.getElem?_map, List.getElem?_eq_getElem hj] at this
  rw [List.getD_eq_getElem?_getD, ← this]; rfl
theorem entry_store {t b : Nat} {l : List (Int × Value)} {k : Int} {n : Nat} {v : Value} (h : sat E w (omapE b l k n * R)) (kk : ∀ w', sat E w' (omap b (putM l k v) * R) → K undef w') :
    efu P (Instr.entryStore t (.map (some b)) (.int .i64 n) v) w K := by
  obtain ⟨l', ns, c, y, h1, st, hx, hn, hp⟩ := sat_omapE.1 h
  have hb := hp.pts_get
  obtain ⟨a1, a2, a3, a4, a5⟩ := ents_at (v := v) st.len hx
  have hlt := (List.getElem?_eq_some_iff.1 a2).1
  have hix : (ents l' ns).findIdx? (fun e => ((e.born : Int) == (n : Int))) = some y.1 := by
    rw [List.findIdx?_eq_some_iff_getElem]
    refine ⟨hlt, ?_, fun j hj => ?_⟩
    · rw [ents_born_at st.len hlt, hn]; simp
    · rw [ents_born_at st.len (by omega)]
      simp only [beq_iff_eq]
      intro e
      have e2 : ns.getD j 0 = ns.getD y.1 0 := by rw [hn]; omega
      rw [List.getD_eq_getElem?_getD, List.getD_eq_getElem?_getD, List.getElem?_eq_getElem (by omega), List.getElem?_eq_getElem a4] at e2
      exact List.pairwise_iff_getElem.1 st.nd j y.1 (by omega) a4 hj (by simpa using e2)
  refine efu_of (w' := w.putObj b (.map (ents (putM l' k v) ns).toArray c)) ?_ (kk _ (sat_omap.2 ⟨ns, c, ⟨?_, st.nd, st.lt⟩, ?_⟩))
  · rw [← a1]
    have hix2 : (ents l' ns).toArray.findIdx? (fun e => ((e.born : Int) == (n : Int))) = some y.1 := by simpa using hix
    simp [Instr.entryStore, getObj_at hb, setObj_at hb, asInt, asIntOf, hix]
  · rw [← h1, a5]; exact st.len
  · rw [← h1]; exact hp.set _
/-- Two variables that are made in any order. -/
def ob (z : List Value) (t : Nat) : Option Nat → HP
  | none => emp
  | some b => pts b (.cells z.toArray t (0, 0))
def ptrO (o : Option Nat) : Option Value := o.map fun b => .pointer (some ⟨b, 0, none⟩)
def twoJ (E : World0) (z : List Value) (t : Nat) (H : HP) (σ : List (Option Value)) (w : World) : Prop := ∃ o0 o1, σ = [ptrO o0, ptrO o1] ∧ sat E w (ob z t o0 * (ob z t o1 * H))
theorem par_two (z : List Value) (t : Nat) {A : (List (Option Value) → World → Prop) → Prop} (h : sat E w H) (k : A (twoJ E z t H)) : par 2 w A :=
  ⟨_, ⟨none, none, rfl, by unfold ob; rw [emp_star, emp_star]; exact h⟩, k⟩
end
end Hold
