/-
  Maps whose keys are whole numbers: what is owned of one; looked at, written, cut down, gone through.
-/
import Derived.Test.YtfaeklinhchidaaGreatPar
import Derived.Maps.RangeRun
import Derived.Sort.OwnSortedInts
set_option linter.all false
namespace Hold
open Go
/-- Entries: keys and values, with the stamps of their coming. -/
def ents : List (Int × Value) → List Nat → List MapEntry
  | x :: l, n :: ns => { key := .int .i64 x.1, val := x.2, born := n } :: ents l ns
  | _, _ => []
def findM : List (Int × Value) → Int → Option (Nat × Value)
  | [], _ => none
  | x :: l, k => if k = x.1 then some (0, x.2) else (findM l k).map fun y => (y.1 + 1, y.2)
def lookM (l : List (Int × Value)) (k : Int) : Option Value := (findM l k).map (·.2)
def putM : List (Int × Value) → Int → Value → List (Int × Value)
  | [], k, v => [(k, v)]
  | x :: l, k, v => if k = x.1 then (k, v) :: l else x :: putM l k v
def delM : List (Int × Value) → Int → List (Int × Value)
  | [], _ => []
  | x :: l, k => if k = x.1 then l else x :: delM l k
/-- The stamps that are left. -/
def delN : List (Int × Value) → List Nat → Int → List Nat
  | x :: l, n :: ns, k => if k = x.1 then ns else n :: delN l ns k
  | _, ns, _ => ns
structure Stamps (l : List (Int × Value)) (ns : List Nat) (c : Nat) : Prop where
  len : ns.length = l.length
  nd : ns.Nodup
  lt : ∀ n ∈ ns, n < c
def omap (b : Nat) (l : List (Int × Value)) : HP :=
  ex fun q : List Nat × Nat => pur (Stamps l q.1 q.2) * pts b (.map (ents l q.1).toArray q.2)
section
variable {P : Program} {E : World0} {w : World} {H R : HP} {K : Value → World → Prop}
theorem sat_omap {b : Nat} {l : List (Int × Value)} : sat E w (omap b l * R) ↔ ∃ ns c, Stamps l ns c ∧ sat E w (pts b (.map (ents l ns).toArray c) * R) := by
  unfold omap
  rw [sat_ex_star]
  constructor
  · rintro ⟨⟨ns, c⟩, h⟩
    simp only [star_assoc] at h
    rw [sat_pur_star] at h
    exact ⟨ns, c, h.1, h.2⟩
  · rintro ⟨ns, c, h1, h2⟩
    refine ⟨(ns, c), ?_⟩
    simp only [star_assoc]
    rw [sat_pur_star]
    exact ⟨h1, h2⟩
/-- The map b is owned. -/
class OwnM (H : HP) (b : Nat) (l : outParam (List (Int × Value))) (R : outParam HP) : Prop where eq : H = omap b l * R
instance (priority := 1100) OwnM.here (b : Nat) (l : List (Int × Value)) (R : HP) : OwnM (omap b l * R) b l R := ⟨rfl⟩
instance (priority := 1050) OwnM.there (b : Nat) (l : List (Int × Value)) (R : HP) : OwnM (R * omap b l) b l R := ⟨star_comm _ _⟩
instance (priority := 900) OwnM.right (P1 P2 : HP) (b : Nat) (l : List (Int × Value)) (R : HP) [h : OwnM P2 b l R] : OwnM (P1 * P2) b l (P1 * R) := ⟨by rw [h.eq, star_left_comm]⟩
instance (priority := 800) OwnM.left (P1 P2 : HP) (b : Nat) (l : List (Int × Value)) (R : HP) [h : OwnM P1 b l R] : OwnM (P1 * P2) b l (R * P2) := ⟨by rw [h.eq, star_assoc]⟩
instance (priority := 100) OwnM.all (b : Nat) (l : List (Int × Value)) : OwnM (omap b l) b l emp := ⟨(star_emp _).symm⟩
theorem sat.ownm (h : sat E w H) (b : Nat) {l : List (Int × Value)} [s : OwnM H b l R] : sat E w (omap b l * R) := h.perm s.eq

theorem getObj_at {r : Nat} {es : Array MapEntry} {c : Nat} (h : w.heap[r]? = some (.map es c)) : (getObj r).run P w = .ok (.map es c) w := by simp [getObj, Sem.run, h]
theorem setObj_at {r : Nat} {es : Array MapEntry} {c : Nat} {o' : Obj} (h : w.heap[r]? = some (.map es c)) : (setObj r o').run P w = .ok () (w.putObj r o') := by simp [setObj, Sem.run, h, World.putObj]
theorem findNow_ents (k : Int) : ∀ (l : List (Int × Value)) (ns : List Nat) (i : Nat), ns.length = l.length → Instr.findNow (.int .i64) (.int .i64 k) (ents l ns) i = some ((findM l k).map fun y => (i + y.1, y.2))
  | [], [], i, _ => rfl
  | x :: l, n :: ns, i, h => by
    have ih := findNow_ents k l ns (i + 1) (by simpa using h)
    simp only [ents, Instr.findNow, Instr.sameNow, findM]
    by_cases hk : k = x.1
    · simp [hk]
    · have e : (k == x.1) = false := by simpa using hk
      simp only [if_true, e, hk, if_false]
      rw [ih]
      cases findM l k with
      | none => rfl
      | some y => simp; omega
theorem run_findKey {kt : TypeId} (hk : P.underlying kt = some (.int .i64)) {k : Int} {l : List (Int × Value)} {ns : List Nat} (h : ns.length = l.length) :
    (Instr.findKey kt (.int .i64 k) (ents l ns)).run P w = .ok (findM l k) w := by
  have e := findNow_ents k l ns 0 h
  have e2 : (findM l k).map (fun y => (0 + y.1, y.2)) = findM l k := by cases findM l k <;> simp
  rw [e2] at e
  simp [Instr.findKey, run_underlying' hk, e]
theorem run_checkKey {kt : TypeId} (hk : P.underlying kt = some (.int .i64)) {k : Int} {b : Bool} : (Instr.checkKey b 10000 kt (.int .i64 k)).run P w = .ok () w := by
  rw [show (10000 : Nat) = 9999 + 1 from rfl, Instr.checkKey]
  simp [run_underlying' hk]
theorem look_ld (h : sat E w H) {t kt vt b : Nat} {l : List (Int × Value)} {k : Int} {z : Value} [i : Ul P t (.map kt vt)] [j : Ul P kt (.int .i64)] [q : ZeroC P vt z] [s : OwnM H b l R]
    (kk : K (match lookM l k with | some v => .tuple #[v, .bool true] | none => .tuple #[z, .bool false]) w) : ldv P (Instr.lookup t (.map (some b)) (.int .i64 k) true) w K := by
  obtain ⟨ns, c, st, hp⟩ := sat_omap.1 (h.perm s.eq)
  refine ldv_of ?_ kk
  have hb := hp.pts_get
  have hf := run_findKey (P := P) (w := w) j.ul (k := k) st.len
  unfold lookM
  cases hx : findM l k with
  | none => rw [hx] at hf; simp [Instr.lookup, run_underlying' i.ul, getObj_at hb, run_checkKey j.ul, hf, run_zero q]
  | some y => rw [hx] at hf; simp [Instr.lookup, run_underlying' i.ul, getObj_at hb, run_checkKey j.ul, hf]
theorem look1_ld (h : sat E w H) {t kt vt b : Nat} {l : List (Int × Value)} {k : Int} {z : Value} [i : Ul P t (.map kt vt)] [j : Ul P kt (.int .i64)] [q : ZeroC P vt z] [s : OwnM H b l R]
    (kk : K ((lookM l k).getD z) w) : ldv P (Instr.lookup t (.map (some b)) (.int .i64 k) false) w K := by
  obtain ⟨ns, c, st, hp⟩ := sat_omap.1 (h.perm s.eq)
  refine ldv_of ?_ kk
  have hb := hp.pts_get
  have hf := run_findKey (P := P) (w := w) j.ul (k := k) st.len
  unfold lookM
  cases hx : findM l k with
  | none => rw [hx] at hf; simp [Instr.lookup, run_underlying' i.ul, getObj_at hb, run_checkKey j.ul, hf, run_zero q]
  | some y => rw [hx] at hf; simp [Instr.lookup, run_underlying' i.ul, getObj_at hb, run_checkKey j.ul, hf]
theorem len_ld (h : sat E w H) {t kt vt b ty : Nat} {cs : Array Bool} {l : List (Int × Value)} [i : Ul P t (.map kt vt)] [s : OwnM H b l R]
    (kk : K (.int .i64 l.length) w) : ld P (oBi .len #[t] ty cs #[.map (some b)]) w K := by
  obtain ⟨ns, c, st, hp⟩ := sat_omap.1 (h.perm s.eq)
  have hb := hp.pts_get
  have hl : ∀ (l : List (Int × Value)) (ns : List Nat), ns.length = l.length → (ents l ns).length = l.length := by
    intro l
    induction l with
    | nil => intro ns _; cases ns <;> rfl
    | cons x l ih => intro ns h; cases ns with
      | nil => cases h
      | cons n ns => simp [ents, ih ns (by simpa using h)]
  refine ⟨.int .i64 l.length, ?_, kk⟩
  simp [oBi, builtin, Builtin.len_, run_underlying' i.ul, getObj_at hb, hl l ns st.len, goInt]
theorem make_map (h : sat E w H) {t kt vt : Nat} [i : Ul P t (.map kt vt)] (kk : ∀ b w', sat E w' (omap b [] * H) → K (.map (some b)) w') : efv P (Instr.makeMap t none) w K := by
  refine efv_of (v := .map (some w.heap.size)) (w' := w.alloc (.map #[] 0)) rfl (kk _ _ (sat_omap.2 ⟨[], 0, ⟨rfl, List.nodup_nil, by simp⟩, h.alloc _⟩))
theorem findM_put {l : List (Int × Value)} {ns : List Nat} {k : Int} {v : Value} {y : Nat × Value} (h : ns.length = l.length) (hf : findM l k = some y) :
    (ents l ns).modify y.1 (fun e => { e with key := .int .i64 k, val := v }) = ents (putM l k v) ns ∧ (putM l k v).length = l.length ∧ (ents l ns)[y.1]?.map (·.key) = some (.int .i64 k) := by
  induction l generalizing ns y with
  | nil => cases hf
  | cons x l ih =>
    cases ns with
    | nil => cases h
    | cons n ns =>
      simp only [findM] at hf
      by_cases hk : k = x.1
      · rw [if_pos hk] at hf
        cases hf
        simp [ents, putM, hk]
      · rw [if_neg hk] at hf
        obtain ⟨y', hy', rfl⟩ := Option.map_eq_some_iff.1 hf
        obtain ⟨a1, a2, a3⟩ := ih (by simpa using h) hy'
        simp [ents, putM, hk, a1, a2, a3]
theorem findM_add {l : List (Int × Value)} {ns : List Nat} {k : Int} {v : Value} {c : Nat} (h : ns.length = l.length) (hf : findM l k = none) :
    ents l ns ++ [{ key := .int .i64 k, val := v, born := c }] = ents (putM l k v) (ns ++ [c]) ∧ (putM l k v).length = l.length + 1 := by
  induction l generalizing ns with
  | nil => cases ns with
    | nil => exact ⟨rfl, rfl⟩
    | cons => cases h
  | cons x l ih =>
    cases ns with
    | nil => cases h
    | cons n ns =>
      simp only [findM] at hf
      by_cases hk : k = x.1
      · rw [if_pos hk] at hf; cases hf
      · rw [if_neg hk, Option.map_eq_none_iff] at hf
        obtain ⟨a1, a2⟩ := ih (by simpa using h) hf
        simp [ents, putM, hk, a1, a2]
theorem update_sl (h : sat E w H) {t kt vt b : Nat} {l : List (Int × Value)} {k : Int} {v : Value} [i : Ul P t (.map kt vt)] [j : Ul P kt (.int .i64)] [s : OwnM H b l R]
    (kk : ∀ w', sat E w' (omap b (putM l k v) * R) → K undef w') : efu P (Instr.mapUpdate t (.map (some b)) (.int .i64 k) v) w K := by
  obtain ⟨ns, c, st, hp⟩ := sat_omap.1 (h.perm s.eq)
  have hb := hp.pts_get
  have hf := run_findKey (P := P) (w := w) j.ul (k := k) st.len
  cases hx : findM l k with
  | none =>
    rw [hx] at hf
    obtain ⟨a1, a2⟩ := findM_add (v := v) (c := c) st.len hx
    refine efu_of (w' := w.putObj b (.map (ents (putM l k v) (ns ++ [c])).toArray (c + 1))) ?_ (kk _ (sat_omap.2 ⟨_, _, ⟨by simp [st.len, a2], ?_, ?_⟩, hp.set _⟩))
    · rw [← a1]
      simp [Instr.mapUpdate, run_underlying' i.ul, getObj_at hb, run_checkKey j.ul, hf, setObj_at hb]
    · refine List.nodup_append.2 ⟨st.nd, by simp, ?_⟩
      intro a ha b' hb' hab
      simp at hb'
      have := st.lt a ha
      omega
    · intro n hn
      rcases List.mem_append.1 hn with hn | hn
      · have := st.lt n hn; omega
      · simp at hn; omega
  | some y =>
    rw [hx] at hf
    obtain ⟨a1, a2, a3⟩ := findM_put (v := v) st.len hx
    refine efu_of (w' := w.putObj b (.map (ents (putM l k v) ns).toArray c)) ?_ (kk _ (sat_omap.2 ⟨_, _, ⟨by simp [st.len, a2], st.nd, st.lt⟩, hp.set _⟩))
    rw [← a1]
    have sb : Instr.sameBits 10000 (.int .i64 k) (.int .i64 k) = true := by unfold Instr.sameBits; simp
    simp [Instr.mapUpdate, run_underlying' i.ul, getObj_at hb, run_checkKey j.ul, hf, setObj_at hb, Instr.keyThatStays, a3, sb]
theorem findM_del {l : List (Int × Value)} {ns : List Nat} {k : Int} {y : Nat × Value} (h : ns.length = l.length) (hf : findM l k = some y) :
    (ents l ns).eraseIdx y.1 = ents (delM l k) (delN l ns k) ∧ (delN l ns k).length = (delM l k).length ∧ (delN l ns k).Sublist ns := by
  induction l generalizing ns y with
  | nil => cases hf
  | cons x l ih =>
    cases ns with
    | nil => cases h
    | cons n ns =>
      simp only [findM] at hf
      by_cases hk : k = x.1
      · rw [if_pos hk] at hf
        cases hf
        simp only [ents, delM, delN, if_pos hk]
        exact ⟨rfl, by simpa using h, List.sublist_cons_self _ _⟩
      · rw [if_neg hk] at hf
        obtain ⟨y', hy', rfl⟩ := Option.map_eq_some_iff.1 hf
        obtain ⟨a1, a2, a3⟩ := ih (by simpa using h) hy'
        simp only [ents, delM, delN, if_neg hk]
        exact ⟨by simp [a1, ents], by simp [a2], a3.cons₂ _⟩
theorem findM_gone {l : List (Int × Value)} {k : Int} (hf : findM l k = none) : delM l k = l := by
  induction l with
  | nil => rfl
  | cons x l ih =>
    simp only [findM] at hf
    by_cases hk : k = x.1
    · rw [if_pos hk] at hf; cases hf
    · rw [if_neg hk, Option.map_eq_none_iff] at hf
      simp only [delM, if_neg hk, ih hf]
theorem delete_sl (h : sat E w H) {t kt vt ty b : Nat} {cs : Array Bool} {l : List (Int × Value)} {k : Int} [i : Ul P t (.map kt vt)] [j : Ul P kt (.int .i64)] [s : OwnM H b l R]
    (kk : ∀ w', sat E w' (omap b (delM l k) * R) → K (.tuple #[]) w') : ef P (oBi .delete #[t, kt] ty cs #[.map (some b), .int .i64 k]) w K := by
  obtain ⟨ns, c, st, hp⟩ := sat_omap.1 (h.perm s.eq)
  have hb := hp.pts_get
  have hf := run_findKey (P := P) (w := w) j.ul (k := k) st.len
  cases hx : findM l k with
  | none =>
    rw [hx] at hf
    refine ef_of (v := .tuple #[]) (w' := w.putObj b (.map (ents l ns).toArray c)) ?_ (kk _ ?_)
    · simp [oBi, builtin, Builtin.delete_, run_underlying' i.ul, getObj_at hb, run_checkKey j.ul, hf, setObj_at hb]
    · rw [findM_gone hx]; exact sat_omap.2 ⟨_, _, st, hp.set _⟩
  | some y =>
    rw [hx] at hf
    obtain ⟨a1, a2, a3⟩ := findM_del st.len hx
    refine ef_of (v := .tuple #[]) (w' := w.putObj b (.map (ents (delM l k) (delN l ns k)).toArray c)) ?_ (kk _ (sat_omap.2 ⟨_, _, ⟨a2, st.nd.sublist a3, fun n hn => st.lt n (a3.subset hn)⟩, hp.set _⟩))
    rw [← a1]
    simp [oBi, builtin, Builtin.delete_, run_underlying' i.ul, getObj_at hb, run_checkKey j.ul, hf, setObj_at hb]
theorem clear_sl (h : sat E w H) {t kt vt ty b : Nat} {cs : Array Bool} {l : List (Int × Value)} [i : Ul P t (.map kt vt)] [s : OwnM H b l R]
    (kk : ∀ w', sat E w' (omap b [] * R) → K (.tuple #[]) w') : ef P (oBi .clear #[t] ty cs #[.map (some b)]) w K := by
  obtain ⟨ns, c, st, hp⟩ := sat_omap.1 (h.perm s.eq)
  have hb := hp.pts_get
  refine ef_of (v := .tuple #[]) (w' := w.putObj b (.map #[] c)) ?_ (kk _ (sat_omap.2 ⟨[], c, ⟨rfl, List.nodup_nil, by simp⟩, hp.set _⟩))
  simp [oBi, builtin, Builtin.clear_, run_underlying' i.ul, getObj_at hb, setObj_at hb]
/-! Going through a map. -/
def unseen : List (Int × Value) → List Nat → List Nat → List (Int × Value)
  | x :: l, n :: ns, seen => if n ∈ seen then unseen l ns seen else x :: unseen l ns seen
  | _, _, _ => []
/-- An iterator in block i over map b: what is there; what it has not come to yet. -/
def omit_ (i b : Nat) (l rest : List (Int × Value)) : HP :=
  ex fun q : List Nat × Nat × List Nat => pur (Stamps l q.1 q.2.1 ∧ rest = unseen l q.1 q.2.2) * (pts i (.mapIter (some b) q.2.1 q.2.2.toArray q.2.1) * pts b (.map (ents l q.1).toArray q.2.1))
theorem sat_omit {i b : Nat} {l rest : List (Int × Value)} : sat E w (omit_ i b l rest * R) ↔ ∃ ns c seen, Stamps l ns c ∧ rest = unseen l ns seen ∧ sat E w (pts i (.mapIter (some b) c seen.toArray c) * (pts b (.map (ents l ns).toArray c) * R)) := by
  unfold omit_
  rw [sat_ex_star]
  constructor
  · rintro ⟨⟨ns, c, seen⟩, h⟩
    simp only [star_assoc] at h
    rw [sat_pur_star] at h
    exact ⟨ns, c, seen, h.1.1, h.1.2, h.2⟩
  · rintro ⟨ns, c, seen, h1, h2, h3⟩
    refine ⟨(ns, c, seen), ?_⟩
    simp only [star_assoc]
    rw [sat_pur_star]
    exact ⟨⟨h1, h2⟩, h3⟩
theorem unseen_nil : ∀ (l : List (Int × Value)) (ns : List Nat), ns.length = l.length → unseen l ns [] = l
  | [], ns, _ => by cases ns <;> rfl
  | x :: l, n :: ns, h => by simp [unseen, unseen_nil l ns (by simpa using h)]
theorem range_sl (h : sat E w H) {t kt vt b : Nat} {l : List (Int × Value)} [i : Ul P t (.map kt vt)] [s : OwnM H b l R]
    (kk : ∀ i w', sat E w' (omit_ i b l l * R) → K (.pointer (some ⟨i, 0, none⟩)) w') : efv P (Instr.range t (.map (some b))) w K := by
  obtain ⟨ns, c, st, hp⟩ := sat_omap.1 (h.perm s.eq)
  have hb := hp.pts_get
  refine efv_of (run_range_map (P := P) w t kt vt b _ c i.ul hb) (kk _ _ (sat_omit.2 ⟨ns, c, [], st, (unseen_nil l ns st.len).symm, ?_⟩))
  exact hp.alloc _
theorem unseen_add : ∀ (l : List (Int × Value)) (ns seen : List Nat) (n : Nat), n ∉ ns → unseen l ns (seen ++ [n]) = unseen l ns seen
  | [], ns, seen, n, _ => by cases ns <;> rfl
  | _ :: _, [], seen, n, _ => rfl
  | x :: l, m :: ns, seen, n, h => by
    have ih := unseen_add l ns seen n (fun hn => h (List.mem_cons_of_mem _ hn))
    have hm : m ≠ n := fun e => h (by simp [e])
    simp only [unseen, ih, List.mem_append, List.mem_singleton, hm, or_false]
theorem born_mem : ∀ {l : List (Int × Value)} {ns : List Nat} {e : MapEntry}, e ∈ ents l ns → e.born ∈ ns
  | [], [], e, h => by simp [ents] at h
  | [], _ :: _, e, h => by simp [ents] at h
  | _ :: _, [], e, h => by simp [ents] at h
  | x :: l, n :: ns, e, h => by
    simp only [ents, List.mem_cons] at h
    rcases h with rfl | h
    · simp
    · exact List.mem_cons_of_mem _ (born_mem h)
theorem left_spec : ∀ {l : List (Int × Value)} {ns seen : List Nat} {e : MapEntry}, ns.Nodup → e ∈ (ents l ns).filter (fun e => !seen.contains e.born) →
    ∃ (j : Nat) (x : Int × Value), (unseen l ns seen)[j]? = some x ∧ e.key = .int .i64 x.1 ∧ e.val = x.2 ∧ unseen l ns (seen ++ [e.born]) = (unseen l ns seen).eraseIdx j
  | [], ns, seen, e, _, h => by cases ns <;> simp [ents] at h
  | _ :: _, [], seen, e, _, h => by simp [ents] at h
  | x :: l, n :: ns, seen, e, hn, h => by
    obtain ⟨hn1, hn2⟩ := List.nodup_cons.1 hn
    simp only [ents, List.filter_cons] at h
    by_cases hs : n ∈ seen
    · have e1 : (!seen.contains n) = false := by simp [hs]
      simp only [e1, Bool.false_eq_true, if_false] at h
      obtain ⟨j, y, h1, h2, h3, h4⟩ := left_spec hn2 h
      refine ⟨j, y, by simp [unseen, hs, h1], h2, h3, ?_⟩
      simp only [unseen, List.mem_append, hs, true_or, if_true, h4]
    · have e1 : (!seen.contains n) = true := by simp [hs]
      simp only [e1, if_true, List.mem_cons] at h
      rcases h with rfl | h
      · refine ⟨0, x, by simp [unseen, hs], rfl, rfl, ?_⟩
        simp [unseen, hs, unseen_add l ns seen n hn1]
      · obtain ⟨j, y, h1, h2, h3, h4⟩ := left_spec hn2 h
        have hb : n ≠ e.born := fun he => hn1 (he ▸ born_mem (List.mem_filter.1 h).1)
        refine ⟨j + 1, y, by simp [unseen, hs, h1], h2, h3, ?_⟩
        simp [unseen, hs, hb, h4]
theorem left_none : ∀ {l : List (Int × Value)} {ns seen : List Nat}, (ents l ns).filter (fun e => !seen.contains e.born) = [] → unseen l ns seen = []
  | [], ns, seen, _ => by cases ns <;> rfl
  | _ :: _, [], seen, _ => rfl
  | x :: l, n :: ns, seen, h => by
    simp only [ents, List.filter_cons] at h
    by_cases hs : n ∈ seen
    · have e1 : (!seen.contains n) = false := by simp [hs]
      simp only [e1, Bool.false_eq_true, if_false] at h
      simp [unseen, hs, left_none h]
    · have e1 : (!seen.contains n) = true := by simp [hs]
      rw [if_pos e1] at h
      cases h
theorem sat.put2 {i : Nat} {o o' : Obj} {w1 : World} (h : sat E w (pts i o * R)) (hw : w1 = w ∨ w1 = w.drew) : sat E (Go.ChangeMaps.setBlock w1 i o') (pts i o' * R) := by
  rcases hw with rfl | rfl
  · exact h.set o'
  · exact (h.drew).set o'
theorem ents_born : ∀ {l : List (Int × Value)} {ns : List Nat}, ns.length = l.length → (ents l ns).map (·.born) = ns
  | [], [], _ => rfl
  | x :: l, n :: ns, h => by simp [ents, ents_born (l := l) (ns := ns) (by simpa using h)]
/-- The next entry, whichever it is. -/
theorem next_sl (h : sat E w H) {i b ty : Nat} {l rest : List (Int × Value)} [s : Split H (omit_ i b l rest) R] (k0 : rest = [] → K (.tuple #[.bool false]) w)
    (k1 : ∀ (j : Nat) (x : Int × Value) w', rest[j]? = some x → (Instr.entry (.pointer (some ⟨i, 0, none⟩))).run P w' = .ok (.tuple #[.int .i64 x.1, x.2]) w' → sat E w' (omit_ i b l (rest.eraseIdx j) * R) → K (.tuple #[.bool true, .int .i64 x.1, x.2]) w') :
    efv P (Instr.next (.pointer (some ⟨i, 0, none⟩)) false ty) w K := by
  obtain ⟨ns, c, seen, st, rfl, hp⟩ := sat_omit.1 (h.perm s.eq)
  have hi := hp.pts_get
  have hb := (hp.perm (star_left_comm _ _ _)).pts_get
  have hold : ∀ x ∈ (ents l ns).toArray.toList, x.born < c := fun x hx => st.lt _ (born_mem (by simpa using hx))
  have hll : (leftOf (ents l ns).toArray seen.toArray).toList = (ents l ns).filter (fun e => !seen.contains e.born) := by
    unfold leftOf
    simp
  rcases run_next_at (P := P) w ty i b c c seen.toArray _ c hi hb hold (Nat.le_refl _) with ⟨h0, hr⟩ | ⟨e, he, w1, hw1, hr⟩
  · refine efv_of hr (k0 (left_none (ns := ns) ?_))
    rw [← hll]
    exact List.eq_nil_of_length_eq_zero (by simpa using h0)
  · rw [hll] at he
    obtain ⟨j, x, h1, h2, h3, h4⟩ := left_spec st.nd he
    have hx := hp.put2 (o' := .mapIter (some b) c (seen.toArray.push e.born) c) hw1
    have hen := run_entry_at (P := P) _ i b c seen.toArray (ents l ns).toArray c e hx.pts_get (hx.perm (star_left_comm _ _ _)).pts_get (by simpa using (List.mem_filter.1 he).1) (by simpa [ents_born st.len] using st.nd)
    rw [h2, h3] at hr hen
    refine efv_of hr (k1 j x _ h1 hen (sat_omit.2 ⟨ns, c, seen ++ [e.born], st, h4.symm, ?_⟩))
    simpa using hx
theorem omit_close {i b : Nat} {l rest : List (Int × Value)} (h : sat E w (omit_ i b l rest * R)) : sat E w (omap b l * R) := by
  obtain ⟨ns, c, seen, st, rfl, hp⟩ := sat_omit.1 h
  exact sat_omap.2 ⟨ns, c, st, hp.drop⟩
end
end Hold

/-
  slices.Sort of whole numbers, by the kit's contract, said of an owned slice.
-/
set_option linter.all false
namespace Hold
open Go Go.Sort Go.Proofs
def iv (n : Int) : Value := .int .i64 n
section
variable {P : Program} {E : World0} {w : World} {H R : HP} {K : Value → World → Prop}
/-- A block has turned, and blocks have come. -/
theorem sat_turn {w' : World} {b : Nat} {o o' : Obj} (h : sat E w (pts b o * R)) (he : env w' = env w) (hb : w'.heap[b]? = some o') (hk : ∀ (k : Nat) (x : Obj), k ≠ b → w.heap[k]? = some x → w'.heap[k]? = some x) : sat E w' (pts b o' * R) := by
  have hs := h.set o'
  obtain ⟨e, I, h', ha, hb', hp⟩ := hs
  have key : ∀ (k : Nat) (x : Obj), (w.putObj b o').heap[k]? = some x → w'.heap[k]? = some x := by
    intro k x hx
    have hx : (w.heap.setIfInBounds b o')[k]? = some x := hx
    by_cases hkb : k = b
    · subst hkb
      rw [Array.getElem?_setIfInBounds_self] at hx
      split at hx
      · rw [hb]; exact hx
      · cases hx
    · rw [Array.getElem?_setIfInBounds_ne (fun h => hkb h.symm)] at hx
      exact hk k x hkb hx
  refine ⟨he.trans (show env w = E from e), I, h', fun k x hI => ⟨(ha k x hI).1, key k x (ha k x hI).2⟩, fun k x hx => key k x (hb' k x hx), hp⟩
theorem putCells_iv (ts : List Int) (sp : List Value) (xs : List Value) (hl : xs.length = ts.length) : putCells (Value.int .i64) 0 ts.toArray (xs ++ sp).toArray = (ts.map iv ++ sp).toArray := by
  apply Array.ext'
  apply List.ext_getElem?
  intro j
  rw [Array.getElem?_toList]
  simp only [putCells, Array.getElem?_mapIdx, List.getElem?_toArray, Nat.zero_le, Nat.zero_add, List.size_toArray, true_and, Nat.sub_zero]
  by_cases hj : j < ts.length
  · rw [List.getElem?_append_left (by rw [hl]; exact hj), List.getElem?_append_left (by simpa using hj), List.getElem?_eq_getElem (by rw [hl]; exact hj)]
    simp [hj, iv]
  · rw [List.getElem?_append_right (by omega), List.getElem?_append_right (by simp; omega)]
    simp [hj, hl]
theorem sort_sl {f : FuncId} (hS : ∀ (blk off cap : Nat) (zs : List Int) (w : World), Holds (Value.int .i64) w blk off zs.toArray → blk < w.heap.size → zs.length < 4611686018427387904 →
      Calls P f #[.slice (some ⟨blk, off, none⟩) zs.length cap] w fun e w' => e = .returned (.tuple #[]) ∧ ∃ n os, w' = grow (putRow (Value.int .i64) (Sort.ahead w n) blk off (zs.mergeSort fun x y => decide (x ≤ y)).toArray) os)
    (hN : ∀ (p : Option Addr) (cap : Nat) (w : World), Calls P f #[.slice p 0 cap] w fun e w' => e = .returned (.tuple #[]) ∧ w' = w)
    {e : TypeId} {v : Value} {zs : List Int} (h : sat E w (osl e 1 v zs.length (zs.map iv) * R)) (hl : zs.length ≤ 1000000)
    (k : ∀ w', sat E w' (osl e 1 v zs.length ((zs.mergeSort fun x y => decide (x ≤ y)).map iv) * R) → K (.tuple #[]) w') : Calls P f #[v] w (Ret K) := by
  have hlen : (zs.mergeSort fun x y => decide (x ≤ y)).length = zs.length := List.length_mergeSort _
  by_cases h0 : zs = []
  · subst h0
    have e0 : (([] : List Int).mergeSort fun x y => decide (x ≤ y)) = [] := by simp
    obtain ⟨a, c, rfl, _, _, _⟩ := osl_shape h
    refine (hN a c w).mono ?_
    rintro e w' ⟨rfl, rfl⟩
    refine ⟨_, rfl, k _ ?_⟩
    rw [e0]
    exact h
  · rcases sat_osl.1 h with ⟨rfl, h1, h2, hR⟩ | ⟨b, cap, sp, rfl, h1, h2, h3, h4, hP⟩
    · exact absurd (List.eq_nil_of_length_eq_zero h1) h0
    · have hb := hP.pts_get
      have hlt := (Array.getElem?_eq_some_iff.1 hb).1
      have hH : Holds (Value.int .i64) w b 0 zs.toArray := holds_of_blockI (e := e) hb (by simp [List.take_left', iv])
      refine (hS b 0 cap zs w hH hlt (by omega)).mono ?_
      rintro e' w' ⟨rfl, n, os, rfl⟩
      refine ⟨_, rfl, k _ ?_⟩
      refine sat_osl.2 (.inr ⟨b, cap, sp, rfl, by simp [hlen], by simpa [hlen] using h2, h3, h4, ?_⟩)
      have hg := grownBy_sortedI (w := w) (g := b) (n := n) (os := os) (zs.mergeSort fun x y => decide (x ≤ y)).toArray
      have hh := heap_sortedI (n := n) (os := os) (zs.mergeSort fun x y => decide (x ≤ y)).toArray hb
      rw [putCells_iv _ sp (zs.map iv) (by simp [hlen])] at hh
      refine sat_turn hP rfl hh fun j x hj hx => ?_
      have hjl := (Array.getElem?_eq_some_iff.1 hx).1
      rw [heap_grow_old _ _ (by simpa using hjl)]
      have hne : b ≠ j := fun h => hj h.symm
      simp [putRow, mapBlock, Sort.ahead, Array.getElem?_modify, hne, hx]
end
end Hold
