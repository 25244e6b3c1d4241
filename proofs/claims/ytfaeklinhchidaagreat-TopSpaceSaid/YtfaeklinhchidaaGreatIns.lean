/-
  Rows of elements of several cells: copy, append of noughts, clear; rows that lie apart.
-/
import Derived.Test.YtfaeklinhchidaaGreatTests
import Derived.Test.YtfaeklinhchidaaGreatStrs
import Derived.Lib.AppendZerosOnto
import Derived.Lib.Overlaps
set_option linter.all false
namespace Hold
open Go
section
variable {P : Program} {E : World0} {w : World} {H R : HP} {K : Value → World → Prop}
theorem cutA_at {b o c lo n : Nat} : cutA (some ⟨b, o, none⟩) c lo n = some ⟨b, if c = lo then o else o + lo * n, none⟩ := by
  unfold cutA; split
  · rfl
  · rw [Option.map_some, add_addr]
theorem cutA_no {a : Option Addr} {c n : Nat} : cutA a c 0 n = a := by
  unfold cutA; split
  · rfl
  · cases a with
    | none => rfl
    | some a =>
      have ha : a.add 0 = a := by cases a; unfold Addr.add; split <;> simp_all
      rw [Option.map_some, Nat.zero_mul, ha]
theorem copy_at (h : sat E w H) {t ty e m sz : Nat} {z : Value} [i : SliceT P t e sz m z] {cs : Array Bool} {b o dLen dCap eb : Nat} {xs : List Value} [hb : Own H b (.cells xs.toArray eb (0, 0)) R]
    {a2 : Option Addr} {sLen sCap n : Nat} (news : List Value) (hn : min sLen dLen = n) (hl : news.length = n * sz) (hw : win (hp w) a2 news) (hfit : o + n * sz ≤ xs.length) (h1 : ∀ x ∈ news, x.oneCell' = true)
    (k : ∀ w', sat E w' (pts b (.cells (xs.take o ++ news ++ xs.drop (o + n * sz)).toArray eb (0, 0)) * R) → K (.int .i64 n) w') :
    ef P (oBi .copy #[t, t] ty cs #[.slice (some ⟨b, o, none⟩) dLen dCap, .slice a2 sLen sCap]) w K := by
  obtain ⟨y, hy, hy1, hy2, hy3⟩ := i.parts
  have hP := h.own b
  have ef_bi : ∀ {v' w'}, (Builtin.copy_ #[t, t] ty #[.slice (some ⟨b, o, none⟩) dLen dCap, .slice a2 sLen sCap]).run P w = .ok v' w' → K v' w' → ef P (oBi .copy #[t, t] ty cs #[.slice (some ⟨b, o, none⟩) dLen dCap, .slice a2 sLen sCap]) w K := fun hr hk =>
    ef_of (by simp [oBi, builtin, hr]) hk
  have hn' : Nat.min sLen dLen = n := hn
  by_cases h0 : n = 0
  · subst h0
    have hnn : news = [] := List.eq_nil_of_length_eq_zero (by simpa using hl)
    subst hnn
    have hq : ∀ (x : Addr), (loadCells x 0).run P w = .ok #[] w := fun x => by simpa using run_loadCells_list (P := P) w x [] (by simp)
    refine ef_bi (v' := .int .i64 0) (w' := w) ?_ (k _ (by simpa using hP))
    cases a2 <;> simp [Builtin.copy_, run_underlying' i.ul, Builtin.lenOf, Builtin.firstCells, run_sizeOf' i.size, hn', storeCells, hq, goInt]
  · rcases hw with rfl | ⟨b2, o2, cs2, e2, fr2, rfl, hb2, hv2⟩
    · exfalso
      have hz : n * sz = 0 := by simpa using hl.symm
      have := i.pos
      rcases Nat.mul_eq_zero.1 hz with h | h <;> omega
    · have hbl := hP.pts_get
      have hld := run_loadCells_list (P := P) w ⟨b2, o2, none⟩ news (fun j v hj => by rw [add_addr]; exact cell_of hb2 (hv2 j v hj))
      have hst := run_storeCells_at P b o eb news 0 xs.toArray w hbl (by simp; omega) h1
      rw [setRow_putObj hbl] at hst
      rw [hl] at hld
      refine ef_bi (v' := .int .i64 n) (w' := w.putObj b (.cells (xs.take o ++ news ++ xs.drop (o + n * sz)).toArray eb (0, 0))) ?_ (k _ (hP.set _))
      simp [Builtin.copy_, run_underlying' i.ul, Builtin.lenOf, Builtin.firstCells, run_sizeOf' i.size, hn', hld, hst, goInt, hl]
theorem clear_none (h : sat E w H) {t e ty : Nat} {cs : Array Bool} {a : Option Addr} {c : Nat} [i : Ul P t (.slice e)] (k : K (.tuple #[]) w) : ef P (oBi .clear #[t] ty cs #[.slice a 0 c]) w K := by
  refine ef_of (v := .tuple #[]) (w' := w) ?_ k
  cases a <;> simp [oBi, builtin, Builtin.clear_, run_underlying' i.ul]
/-- clear of elements of several cells: the cells are some. -/
theorem clear_some (h : sat E w H) {t e m sz ty b o n c eb : Nat} {cs : Array Bool} {xs : List Value} {z : Value} [i : SliceT P t e sz m z] [hb : Own H b (.cells xs.toArray eb (0, 0)) R] (hz1 : ∀ x ∈ z.cells.toList, x.oneCell' = true) (hn : 0 < n) (hl : o + n * sz ≤ xs.length)
    (k : ∀ zs w', zs.length = n * sz → sat E w' (pts b (.cells (xs.take o ++ zs ++ xs.drop (o + n * sz)).toArray eb (0, 0)) * R) → K (.tuple #[]) w') : ef P (oBi .clear #[t] ty cs #[.slice (some ⟨b, o, none⟩) n c]) w K := by
  obtain ⟨y, hy, hy1, hy2, hy3⟩ := i.parts
  have hz := i.zs
  have h2 := h.own b
  have hzl : (Builtin.zeroCells z.cells n).toList.length = n * sz := by rw [Array.length_toList, size_zeroCells, hz]
  have hzo : ∀ x ∈ (Builtin.zeroCells z.cells n).toList, x.oneCell' = true := by
    intro x hx
    unfold Builtin.zeroCells at hx
    rw [Array.toList_map, List.mem_map] at hx
    obtain ⟨j, _, rfl⟩ := hx
    have hlt : j % z.cells.size < z.cells.size := Nat.mod_lt _ (by rw [hz]; exact i.pos)
    rw [getElem!_pos z.cells _ hlt]
    exact hz1 _ (Array.getElem_mem_toList _)
  have hst := run_storeCells_at P b o eb (Builtin.zeroCells z.cells n).toList 0 xs.toArray w h2.pts_get (by rw [hzl]; simp; omega) hzo
  rw [setRow_putObj h2.pts_get] at hst
  refine ef_of (v := .tuple #[]) (w' := w.putObj b (.cells (xs.take o ++ (Builtin.zeroCells z.cells n).toList ++ xs.drop (o + n * sz)).toArray eb (0, 0))) ?_ (k _ _ hzl (h2.set _))
  obtain ⟨m, rfl⟩ : ∃ m, n = m + 1 := ⟨n - 1, by omega⟩
  have hzz : (zeroValue e).run P w = .ok z w := by unfold zeroValue typeInfo; simp [hy, hy1]
  simp [oBi, builtin, Builtin.clear_, run_underlying' i.ul, hzz, hst, hzl]
/-- append of noughts to a row that has no room. -/
theorem append_zsN (h : sat E w H) {t tn ty e m sz : Nat} {z : Value} [i : SliceT P t e sz m z] [j : Ul P tn (.int .i64)] {cs : Array Bool} {a : Option Addr} {n c k' : Nat} {xs : List Value} (hx : xs.length = n * sz) (hv : win (hp w) a xs) (hk : 0 < k') (hc : c < n + k') (hnc : n ≤ c)
    (hb : (n + k') * m ≤ 140737488355328) (hm : n + k' ≤ 1000000)
    (k : ∀ zs v' w', zs.length = k' * sz → sat E w' (osl e sz v' (n + k') (xs ++ zs) * H) → K v' w') : ef P (oBi .append #[t, tn] ty cs #[.slice a n c, .int .i64 k']) w K := by
  obtain ⟨y, hy, hy1, hy2, hy3⟩ := i.parts
  have hz := i.zs
  have hsz := i.pos
  have hfc : (Builtin.firstCells y.size n (.slice a n c)).run P w.drew = .ok xs.toArray w.drew := by
    by_cases h0 : n = 0
    · subst h0
      have : xs = [] := List.eq_nil_of_length_eq_zero (by simpa using hx)
      subst this
      have hq : ∀ (x : Addr), (loadCells x 0).run P w.drew = .ok #[] w.drew := fun x => by simpa using run_loadCells_list (P := P) w.drew x [] (by simp)
      cases a <;> simp [Builtin.firstCells, hq]
    · rcases hv with rfl | ⟨b2, o2, cs2, e2, fr2, rfl, hb2, hv2⟩
      · exfalso
        have hz : n * sz = 0 := by simpa using hx.symm
        rcases Nat.mul_eq_zero.1 hz with h | h <;> omega
      · have hld := run_loadCells_list (P := P) w.drew ⟨b2, o2, none⟩ xs (fun j v hj => by
          have : w.cell? ((⟨b2, o2, none⟩ : Addr).add j) = some v := by rw [add_addr]; exact cell_of hb2 (hv2 j v hj)
          exact this)
        rw [hx, ← hy2] at hld
        simp [Builtin.firstCells, hld]
  have hr := Lib.run_append_grow_zeros (P := P) w t tn ty e y z .i64 .i64 i.ul j.ul hy hy1 a n c xs hfc k' hk (by rw [hy2]; exact hsz) hc (by omega) (by rw [hy3]; have : k' * m ≤ (n + k') * m := Nat.mul_le_mul_right _ (by omega); omega) (growslice_fits (by omega) (by rw [hy3]; exact hb))
  have ef_bi : ∀ {v' w'}, (Builtin.append_ #[t, tn] ty #[.slice a n c, .int .i64 k']).run P w = .ok v' w' → K v' w' → ef P (oBi .append #[t, tn] ty cs #[.slice a n c, .int .i64 k']) w K := fun hr hk =>
    ef_of (by simp [oBi, builtin, hr]) hk
  refine ef_bi hr (k (Builtin.zeroCells z.cells k').toList _ _ (by rw [Array.length_toList, size_zeroCells, hz]) ?_)
  have hge := grownCap_ge w (n + k') c e
  have hle := grownCap_le_maxLen w (n + k') c e (by simp only [maxLen]; omega)
  refine sat_osl.2 (.inr ⟨w.heap.size, _, (Builtin.zeroCells z.cells (grownCap w (n + k') c e - (n + k'))).toList, rfl, ?_, ?_, hge, by simp only [maxLen] at hle; omega, ?_⟩)
  · rw [List.length_append, hx, Array.length_toList, size_zeroCells, hz, Nat.add_mul]
  · rw [List.length_append, List.length_append, hx, Array.length_toList, size_zeroCells, hz, Array.length_toList, size_zeroCells, hz, ← Nat.add_mul, ← Nat.add_mul]
    congr 1; omega
  · have := h.drew.alloc (.cells (xs.toArray ++ Builtin.zeroCells z.cells k' ++ Builtin.zeroCells z.cells (grownCap w (n + k') c e - (n + k'))) e (0, 0))
    have e1 : ((xs ++ (Builtin.zeroCells z.cells k').toList) ++ (Builtin.zeroCells z.cells (grownCap w (n + k') c e - (n + k'))).toList).toArray = xs.toArray ++ Builtin.zeroCells z.cells k' ++ Builtin.zeroCells z.cells (grownCap w (n + k') c e - (n + k')) := by
      apply Array.ext'; simp
    rw [e1]; exact this
/-- Two rows that are owned do not overlap. -/
theorem apart_run {tS tR e m sz : Nat} {z : Value} [i : SliceT P tS e sz m z] {b1 b2 o1 o2 l1 l2 c1 c2 t1 t2 : Nat} {xs ys : List Value} (h : sat E w (pts b1 (.cells xs.toArray t1 (0, 0)) * (pts b2 (.cells ys.toArray t2 (0, 0)) * R))) (hy0 : ys ≠ []) :
    (Extern.SlicesOverlaps.overlaps #[tS, tS] #[tR] #[.slice (some ⟨b1, o1, none⟩) l1 c1, .slice (some ⟨b2, o2, none⟩) l2 c2]).run P w = .ok (.bool false) w := by
  have g1 := h.pts_get
  have g2 := (h.perm (star_left_comm _ _ _)).pts_get
  obtain ⟨y, hy, hy1, hy2, hy3⟩ := i.parts
  refine Lib.run_overlaps_apart (P := P) w tS tR e i.ul sz (fun w => run_sizeOf' i.size) ⟨b1, o1, none⟩ ⟨b2, o2, none⟩ l1 c1 l2 c2 h.ne t1 t2 xs.length ys.length ?_ ?_ ?_ ?_ ?_
  · simp [World.shape?, g1]
  · simp [World.shape?, g2]
  · intro e; exact hy0 (List.eq_nil_of_length_eq_zero e)
  · simp [World.frozen?, g1]
  · simp [World.frozen?, g1]
end
end Hold
