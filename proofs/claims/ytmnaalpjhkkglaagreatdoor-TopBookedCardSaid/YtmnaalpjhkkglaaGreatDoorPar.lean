/-
  Structs within blocks: parts of a written list, elements of several cells, the sameness of structs.
-/
import Derived.Test.YtmnaalpjhkkglaaGreatDoorStrs
import Derived.Test.YtmnaalpjhkkglaaGreatDoorArr
import Derived.Laws.StructEq
set_option linter.all false
namespace Hold
open Go
section
variable {P : Program} {E : World0} {w : World} {H R : HP} {K : Value → World → Prop}
theorem take_cell {xs ys : List Value} {o n j : Nat} {v : Value} (hy : (xs.drop o).take n = ys) (hj : ys[j]? = some v) : xs[o + j]? = some v := by
  subst hy
  rw [List.getElem?_take] at hj
  split at hj
  · rwa [List.getElem?_drop] at hj
  · cases hj
theorem ld_part (h : sat E w H) {t n b o e : Nat} {xs : List Value} {fr : Nat × Nat} [i : AggC P t n] [hb : Has H b (.cells xs.toArray e fr)] (ys : List Value) (hn : ys.length = n) (hy : (xs.drop o).take n = ys) (k : K (.agg ys.toArray) w) :
    ldv P (Instr.loadAt t (.pointer (some ⟨b, o, none⟩))) w K :=
  ldv_of (run_loadN hn fun j v hj => cell_of (hb.get h) (by simpa using take_cell hy hj)) k
theorem st_part (h : sat E w H) {g : Gd} {t n b o e : Nat} {xs : List Value} {fr : Nat × Nat} {A : Prop} [i : AggC P t n] [hb : Has H b (.cells xs.toArray e fr)] (ys : List Value) (hn : ys.length = n) (hy : (xs.drop o).take n = ys) (k : A) :
    stv P g (Instr.loadAt t (.pointer (some ⟨b, o, none⟩))) (.agg ys.toArray) w A :=
  stv_of (run_loadN hn fun j v hj => cell_of (hb.get h) (by simpa using take_cell hy hj)) k
theorem store_part (h : sat E w H) {t n b o e : Nat} {xs vs : List Value} [i : AggC P t n] [hb : Own H b (.cells xs.toArray e (0, 0)) R] (ys : List Value) (hn : vs.length = n) (h1 : ∀ x ∈ vs, x.oneCell' = true) (hl : o + n ≤ xs.length)
    (hy : xs.take o ++ vs ++ xs.drop (o + n) = ys) (k : ∀ w', sat E w' (pts b (.cells ys.toArray e (0, 0)) * R) → K undef w') :
    efu P (Instr.storeAt t (.pointer (some ⟨b, o, none⟩)) (.agg vs.toArray)) w K := by
  subst hy
  exact storeN_sl (b := b) h i.size (vs := vs) (by simp [Value.cells]) hn h1 hl k
/-- A store of a struct over all of its block. -/
theorem store_all (h : sat E w H) {t n b e : Nat} {xs vs : List Value} [i : AggC P t n] [hb : Own H b (.cells xs.toArray e (0, 0)) R] (hx : xs.length = n) (hn : vs.length = n) (h1 : ∀ x ∈ vs, x.oneCell' = true)
    (k : ∀ w', sat E w' (pts b (.cells vs.toArray e (0, 0)) * R) → K undef w') :
    efu P (Instr.storeAt t (.pointer (some ⟨b, 0, none⟩)) (.agg vs.toArray)) w K :=
  store_part (b := b) h vs hn h1 (by omega) (by rw [List.take_zero, List.nil_append, List.drop_eq_nil_of_le (by omega), List.append_nil]) k
/-- An element of several cells. -/
theorem ld_el (h : sat E w H) {t b o n c q sz : Nat} {xs : List Value} [i : AggC P t sz] (hb : Rds H (.slice (some ⟨b, o, none⟩) n c) n xs) (d : Nat) (hq : q = o + d) (ys : List Value) (hn : ys.length = sz) (hy : (xs.drop d).take sz = ys) (k : K (.agg ys.toArray) w) :
    ldv P (Instr.loadAt t (.pointer (some ⟨b, q, none⟩))) w K :=
  ldv_of (run_loadN hn fun j v hj => hb.cell h (by omega) (take_cell hy hj)) k
theorem st_el (h : sat E w H) {g : Gd} {t b o n c q sz : Nat} {xs : List Value} {A : Prop} [i : AggC P t sz] (hb : Rds H (.slice (some ⟨b, o, none⟩) n c) n xs) (d : Nat) (hq : q = o + d) (ys : List Value) (hn : ys.length = sz) (hy : (xs.drop d).take sz = ys) (k : A) :
    stv P g (Instr.loadAt t (.pointer (some ⟨b, q, none⟩))) (.agg ys.toArray) w A :=
  stv_of (run_loadN hn fun j v hj => hb.cell h (by omega) (take_cell hy hj)) k
theorem o_slice_hm {t e n m : Nat} {z : Value} [i : SliceT P t e n m z] {a : Option Addr} {l c : Nat} {k k' : IntKind} {y x : Int} (h0 : 0 ≤ y) (h1 : y ≤ x) (h2 : x ≤ c) :
    pvv P (Instr.sliceAt t (.slice a l c) none (some (.int k y)) (some (.int k' x))) w K = K (.slice a y.toNat x.toNat) w := by
  obtain ⟨y, rfl⟩ := Int.eq_ofNat_of_zero_le h0
  obtain ⟨x, rfl⟩ := Int.eq_ofNat_of_zero_le (show 0 ≤ x by omega)
  have h1' : y ≤ x := by omega
  have h2' : x ≤ c := by omega
  exact pvv_eq fun w => by
    have ha : ∀ a : Addr, a.add 0 = a := fun a => by cases a; unfold Addr.add; split <;> simp_all
    cases a <;> simp [Instr.sliceAt, Instr.slice, Instr.sliceBounds, Instr.sliceBound, asIntOf, run_underlying' i.ul, run_sizeOf' i.size, h1', h2', ha]
/-- append to a full slice, of elements of several cells: at least one is appended. -/
theorem append_fullN (h : sat E w H) {t ty e sz m : Nat} {z : Value} [i : SliceT P t e sz m z] {cs : Array Bool} {a : Option Addr} {n : Nat} {xs : List Value} (hx : xs.length = n * sz) (hv : Rds H (.slice a n n) n xs)
    {a2 : Option Addr} {k' c : Nat} (news : List Value) (hk : 0 < k') (hl : news.length = k' * sz) (hw : win (hp w) a2 news) (hb : (n + k') * m ≤ 140737488355328) (hm : n + k' ≤ 9223372036854775807)
    (k : ∀ v' w', sat E w' (osl e sz v' (n + k') (xs ++ news) * H) → K v' w') : ef P (oBi .append #[t, t] ty cs #[.slice a n n, .slice a2 k' c]) w K := by
  obtain ⟨y, hy, hy1, hy2, hy3⟩ := i.parts
  have hz := i.zs
  have hsz := i.pos
  have ef_bi : ∀ {v' w'}, (Builtin.append_ #[t, t] ty #[.slice a n n, .slice a2 k' c]).run P w = .ok v' w' → K v' w' → ef P (oBi .append #[t, t] ty cs #[.slice a n n, .slice a2 k' c]) w K := fun hr hk =>
    ef_of (by simp [oBi, builtin, hr]) hk
  rcases hw with rfl | ⟨b2, o2, cs2, e2, fr2, rfl, hb2, hv2⟩
  · exfalso
    have h0 : k' * sz = 0 := by simpa using hl.symm
    rcases Nat.mul_eq_zero.1 h0 with h' | h' <;> omega
  · have grow : ∀ (sCap : Nat), sCap < n + k' → sat E (w.drew.alloc (.cells (xs.toArray ++ news.toArray ++ Builtin.zeroCells z.cells (grownCap w (n + k') sCap e - (n + k'))) e)) (osl e sz (.slice (some ⟨w.heap.size, 0, none⟩) (n + k') (grownCap w (n + k') sCap e)) (n + k') (xs ++ news) * H) := by
      intro sCap hlt
      have hge := grownCap_ge w (n + k') sCap e
      have hle := grownCap_le_maxLen w (n + k') sCap e (by simp only [maxLen]; omega)
      refine sat_osl.2 (.inr ⟨w.heap.size, _, (Builtin.zeroCells z.cells (grownCap w (n + k') sCap e - (n + k'))).toList, rfl, by rw [List.length_append, hx, hl, Nat.add_mul], ?_, hge, by simp only [maxLen] at hle; omega, ?_⟩)
      · rw [List.length_append, List.length_append, hx, hl, Array.length_toList, size_zeroCells, hz, ← Nat.add_mul, ← Nat.add_mul]
        congr 1; omega
      · have := h.drew.alloc (.cells (xs.toArray ++ news.toArray ++ Builtin.zeroCells z.cells (grownCap w (n + k') sCap e - (n + k'))) e (0, 0))
        have e1 : ((xs ++ news) ++ (Builtin.zeroCells z.cells (grownCap w (n + k') sCap e - (n + k'))).toList).toArray = xs.toArray ++ news.toArray ++ Builtin.zeroCells z.cells (grownCap w (n + k') sCap e - (n + k')) := by
          apply Array.ext'; simp
        rw [e1]; exact this
    have hnews : ∀ j v, news[j]? = some v → w.cell? ((⟨b2, o2, none⟩ : Addr).add j) = some v := fun j v hj => by rw [add_addr]; exact cell_of hb2 (hv2 j v hj)
    have hnm : n * m ≤ (n + k') * m := Nat.mul_le_mul_right _ (by omega)
    rcases hv.win h with rfl | ⟨b, o, cs1, e1, fr1, rfl, hb1, hv1⟩
    · have hn0 : n = 0 := by
        have h0 : n * sz = 0 := by simpa using hx.symm
        rcases Nat.mul_eq_zero.1 h0 with h' | h' <;> omega
      subst hn0
      cases a with
      | none =>
        have hr := run_append_nil (P := P) w t ty e y z i.ul hy hy1 ⟨b2, o2, none⟩ k' c news (by rw [hy2]; omega) hnews (by omega) (by omega) (by rw [hy3]; simp only [Nat.zero_add] at hb; omega)
        have g0 := grow 0 (by omega)
        simp only [Nat.zero_add, List.nil_append] at g0 k ⊢
        exact ef_bi hr (k _ _ (by simpa using g0))
      | some a =>
        have hr := run_append_grow (P := P) w t ty e y z i.ul hy hy1 a 0 0 [] (by simp) (fun j v hj => by simp at hj) ⟨b2, o2, none⟩ k' c news (by rw [hy2]; omega) hnews (by omega) (by omega) (growslice_fits (by omega) (by rw [hy3]; exact hb))
        exact ef_bi hr (k _ _ (grow 0 (by omega)))
    · have hr := run_append_grow (P := P) w t ty e y z i.ul hy hy1 ⟨b, o, none⟩ n n xs (by rw [hy2]; omega) (fun j v hj => by rw [add_addr]; exact cell_of hb1 (hv1 j v hj)) ⟨b2, o2, none⟩ k' c news (by rw [hy2]; omega) hnews (by omega) (by omega) (growslice_fits (by omega) (by rw [hy3]; exact hb))
      exact ef_bi hr (k _ _ (grow n (by omega)))
theorem o_eqStruct {t : TypeId} {xo yo : Operand} {xs ys : Array Value} {b : Bool} (hg : P.eqGuardType P.depth t = false) (ht : P.underlying t = some (.struct (P.fieldsOf t))) (hp : P.stoodInHeld t = false)
    (hr : ∀ w, (Op.eqFields 9999 xs ys (P.fieldsOf t).toList).run P w = .ok b w) : pvv P (oEq .eql t xo yo (.agg xs) (.agg ys)) w K = K (.bool b) w := pvv_eq fun w => by
  have e2 : (Op.equalIn 10000 t (.agg xs) (.agg ys)).run P w = .ok b w := by rw [run_equalIn_struct w 9999 t xs ys ht hp]; exact hr w
  have e3 := run_eqGuard_agg (P := P) w .eql t xo yo xs ys hg
  have e4 := run_eql_struct (P := P) w t xs ys
  rw [e2] at e4
  simp only [oEq, Sem.run_bind, e3, Result.andThen_ok, e4]
theorem o_neStruct {t : TypeId} {xo yo : Operand} {xs ys : Array Value} {b : Bool} (hg : P.eqGuardType P.depth t = false) (ht : P.underlying t = some (.struct (P.fieldsOf t))) (hp : P.stoodInHeld t = false)
    (hr : ∀ w, (Op.eqFields 9999 xs ys (P.fieldsOf t).toList).run P w = .ok b w) : pvv P (oEq .neq t xo yo (.agg xs) (.agg ys)) w K = K (.bool !b) w := pvv_eq fun w => by
  have e2 : (Op.equalIn 10000 t (.agg xs) (.agg ys)).run P w = .ok b w := by rw [run_equalIn_struct w 9999 t xs ys ht hp]; exact hr w
  have e3 := run_eqGuard_agg (P := P) w .neq t xo yo xs ys hg
  have e4 := run_neq_struct (P := P) w t xs ys
  rw [e2] at e4
  simp only [oEq, Sem.run_bind, e3, Result.andThen_ok, e4]
theorem o_neArr {t e : TypeId} {n : Nat} [i : Ul P t (.array n e)] [j : Ul P e (.int .u8)] [q : OneC P e] {xo yo : Operand} (hg : P.eqGuardType P.depth t = false) {xs ys : List UInt8} (hx : xs.length = n) (hy : ys.length = n) :
    pvv P (oEq .neq t xo yo (.agg (xs.map bv).toArray) (.agg (ys.map bv).toArray)) w K = K (.bool !(xs == ys)) w := pvv_eq fun w => by
  have := run_equalIn_bytes (P := P) w 9998 t e n i.ul j.ul (fun w => run_sizeOf' q.size) xs ys hx hy
  have e2 : (Op.equal t (.agg (xs.map bv).toArray) (.agg (ys.map bv).toArray)).run P w = .ok (xs == ys) w := this
  simp [oEq, eqGuard, hg, binOp, e2]
/-- A result that stands in a block of its own, of several cells. -/
theorem res_all (h : sat E w H) {t n b e : Nat} {xs vs : List Value} [i : AggC P t n] [hb : Own H b (.cells xs.toArray e (0, 0)) R] (hx : xs.length = n) (hn : vs.length = n) (h1 : ∀ x ∈ vs, x.oneCell' = true)
    (k : ∀ w', sat E w' (pts b (.cells vs.toArray e (0, 0)) * R) → K (.agg vs.toArray) w') :
    efu P (Instr.storeAt t (.pointer (some ⟨b, 0, none⟩)) (.agg vs.toArray)) w fun _ w => ∃ r, (do loadVar t (← asAddr (.pointer (some ⟨b, 0, none⟩)))).run P w = .ok r w ∧ K r w :=
  store_all (b := b) h hx hn h1 fun w h => res_agg (b := b) h hn (k _ h)
theorem res_one (h : sat E w H) {t b e : Nat} {xs : List Value} {v : Value} [i : OneC P t] [hb : Has H b (.cells xs.toArray e (0, 0))] (hv : xs[0]? = some v) (k : K v w) :
    ∃ r, (do loadVar t (← asAddr (.pointer (some ⟨b, 0, none⟩)))).run P w = .ok r w ∧ K r w := by
  refine ⟨_, ?_, k⟩
  have := run_load1 (P := P) (w := w) (t := t) (a := ⟨b, 0, none⟩) (v := v) (cell_of (hb.get h) (by simpa using hv))
  simpa [Instr.loadAt, Instr.sureAddr, asAddr] using this
theorem run_part1 {t : TypeId} {off : Nat} {v : Value} {cs : Array Value} {w : World} [i : OneC P t] (hv : cs[off]? = some v) : (part t cs off).run P w = .ok v w := by
  simp [part, i.agg w, hv]
theorem run_partN {t n : TypeId} {off : Nat} {cs : Array Value} {w : World} [i : AggC P t n] : (part t cs off).run P w = .ok (.agg (cs.extract off (off + n))) w := by
  simp [part, i.agg w, run_sizeOf' i.size]
/-- One field's sameness, and the others'. -/
theorem run_eqField {d : Nat} {xs ys : Array Value} {f : Field} {fs : List Field} {a b : Value} {p q : Bool} {w : World} (hn : (f.name == "_") = false) (ha : (part f.type xs f.offset).run P w = .ok a w) (hb : (part f.type ys f.offset).run P w = .ok b w)
    (he : (Op.equalIn d f.type a b).run P w = .ok p w) (hr : (Op.eqFields d xs ys fs).run P w = .ok q w) : (Op.eqFields d xs ys (f :: fs)).run P w = .ok (p && q) w := by
  have hn2 : f.name ≠ "_" := by simpa using hn
  simp only [Op.eqFields, hn2, if_true, ne_eq, not_false_eq_true, Sem.run_bind, ha, hb, he, Result.andThen_ok]
  cases p
  · simp
  · simp [hr]
theorem run_eqNone {d : Nat} {xs ys : Array Value} {w : World} : (Op.eqFields d xs ys []).run P w = .ok true w := by simp [Op.eqFields]
end
end Hold

/-
  A part of a region whose order is free: what is known of each slot once it is filled stays for ever.
-/
set_option linter.all false
namespace Hold
open Go
section
variable {P : Program} {E : World0} {w : World} {H R : HP} {K : Value → World → Prop}
/-- What is known of the slots that are filled. -/
def slotsP (φ : Nat → Value → PP) (σ : List (Option Value)) : PP := ⟨fun I => ∀ k v, σ[k]? = some (some v) → (φ k v).p I, fun hI h k v hv => (φ k v).mono hI (h k v hv)⟩
def slots (φ : Nat → Value → PP) (σ : List (Option Value)) (H : HP) : HP := pers (slotsP φ σ) * H
def ppOf (p : Prop) : PP := ⟨fun _ => p, fun _ h => h⟩
theorem par_sl (φ : Nat → Value → PP) {n : Nat} {A : (List (Option Value) → World → Prop) → Prop} (h : sat E w H) (k : A (fun σ w => sat E w (slots φ σ H))) : par n w A := by
  refine ⟨_, ?_, k⟩
  unfold slots
  refine h.mono fun I h' hp' => (pers_star_p _ _ _ _).2 ⟨?_, hp'⟩
  intro k v hv
  rw [List.getElem?_replicate] at hv
  split at hv <;> cases hv
theorem slots.get {φ : Nat → Value → PP} {σ : List (Option Value)} (h : sat E w (slots φ σ H)) {k : Nat} {v : Value} (hv : σ[k]? = some (some v)) : (φ k v).p (hp w) := h.pers_get k v hv
theorem slots.rds {φ : Nat → Value → PP} {σ : List (Option Value)} {v u : Value} {n : Nat} {xs : List Value} {k : Nat} (hv : σ[k]? = some (some v)) (hφ : ∀ I, (φ k v).p I → RdS I u n xs) : Rds (slots φ σ H) u n xs := fun E w hs => hφ _ (slots.get hs hv)
theorem slots.add {φ : Nat → Value → PP} {σ : List (Option Value)} {k : Nat} {v : Value} (h : sat E w (pers (φ k v) * slots φ σ H)) : sat E w (slots φ (σ.set k (some v)) H) := by
  unfold slots at h ⊢
  rw [← star_assoc, pers_and] at h
  refine h.pers_mono fun I hI => ?_
  intro j u hj
  rw [List.getElem?_set] at hj
  split at hj
  · rename_i hkj
    subst hkj
    split at hj
    · cases hj; exact hI.1
    · cases hj
  · exact hI.2 j u hj
theorem slots.put {φ : Nat → Value → PP} {σ : List (Option Value)} {k : Nat} {v : Value} (h : sat E w (slots φ σ H)) (hp : (φ k v).p (fun _ => none)) : sat E w (slots φ (σ.set k (some v)) H) :=
  slots.add (h.mono fun I h' hp' => (pers_star_p _ _ _ _).2 ⟨(φ k v).mono (fun _ _ h => by cases h) hp, hp'⟩)
/-- What is owned and stays. -/
theorem slots.keep {φ : Nat → Value → PP} {σ : List (Option Value)} {k e n sz : Nat} {v : Value} {xs : List Value} (h : sat E w (osl e sz v n xs * slots φ σ H)) (hp : ∀ I, RdS I v n xs → (φ k v).p I) : sat E w (slots φ (σ.set k (some v)) H) :=
  slots.add ((osl_freeze h).pers_mono hp)
theorem slots.keepb {φ : Nat → Value → PP} {σ : List (Option Value)} {k b e n : Nat} {xs : List Value} (h : sat E w (pts b (.cells xs.toArray e (0, 0)) * slots φ σ H)) (hn : n ≤ 9223372036854775807) (hx : xs.length = n)
    (hp : ∀ I, RdS I (.slice (some ⟨b, 0, none⟩) n n) n xs → (φ k (.slice (some ⟨b, 0, none⟩) n n)).p I) : sat E w (slots φ (σ.set k (some (.slice (some ⟨b, 0, none⟩) n n))) H) :=
  slots.keep (sz := 1) (osl_of (e := e) h (by omega) hn) hp
theorem slots.old {φ : Nat → Value → PP} {σ : List (Option Value)} (h : sat E w (slots φ σ H)) : sat E w H := h.drop
/-- The block b reads o, among the slots' frame. -/
instance (priority := 900) Has.slots {φ : Nat → Value → PP} {σ : List (Option Value)} (H : HP) (b : Nat) (o : Obj) [i : Has H b o] : Has (slots φ σ H) b o := ⟨fun h => i.get (slots.old h)⟩
theorem Rds.slots {φ : Nat → Value → PP} {σ : List (Option Value)} {v : Value} {n : Nat} {xs : List Value} (h : Rds H v n xs) : Rds (Hold.slots φ σ H) v n xs := fun E w hs => h E w (slots.old hs)
theorem o_gtrT {t : TypeId} {a b : List UInt8} : pvv P (binOp .gtr t (tv a) (tv b)) w K = K (.bool !(lexB a b || (a == b))) w := pvv_eq fun w => by
  have : (⟨a.toArray⟩ : ByteArray).toList = a ∧ (⟨b.toArray⟩ : ByteArray).toList = b := by simp [ByteArray.toList_eq]
  simp only [binOp, Op.stringOp, tv, this.1, this.2, bytesLess_lexB]
  rfl
end
end Hold
