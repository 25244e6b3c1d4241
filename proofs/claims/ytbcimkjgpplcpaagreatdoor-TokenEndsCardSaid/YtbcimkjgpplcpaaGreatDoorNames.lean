/-
  slices.Sorted(maps.Keys(m)): the keys of a map of things (Family), rising.
-/
import Derived.Test.YtbcimkjgpplcpaaGreatDoorPB
import Derived.Test.YtbcimkjgpplcpaaGreatDoorPS
import Derived.Test.YtbcimkjgpplcpaaGreatDoorSortK
set_option linter.all false
set_option maxRecDepth 100000
namespace Go.Proofs.YtbcimkjgpplcpaaGreatDoor.KF
open Go Hold
variable {E : World0} {w : World} {H R : HP} {K : Value → World → Prop}
def boxM (mb b : Nat) : HP := pts mb (.cells #[.map (some b)] 60 (0, 0))
instance hasM (mb b : Nat) : Has (boxM mb b) mb (.cells [Value.map (some b)].toArray 60 (0, 0)) := ⟨fun h => (h.perm (star_emp _).symm).pts_get⟩
theorem erase_perm {α : Type} {l : List α} {j : Nat} {x : α} (h : l[j]? = some x) : (x :: l.eraseIdx j).Perm l := by
  induction l generalizing j with
  | nil => simp at h
  | cons y l ih =>
    cases j with
    | zero => simp at h; subst h; exact List.Perm.refl _
    | succ j =>
      simp only [List.getElem?_cons_succ] at h
      rw [List.eraseIdx_cons_succ]
      exact (List.Perm.swap y x _).trans ((ih h).cons y)
theorem KeysIt_spec {b mb : Nat} {l : List (Int × Value)} {y : Value} (G : List Int → HP) (h : sat E w (G [] * (omap b l * (boxM mb b * H))))
    (hy : ∀ (ss : List Int) (x : Int) (F : HP) (w : World) (K' : Value → World → Prop), ss.length < l.length → sat E w (G ss * F) → (∀ w', sat E w' (G (ss ++ [x]) * F) → K' (.bool true) w') → ef prog (oCall y #[.int .i64 x]) w K')
    (k : ∀ (ss : List Int) w', ss.Perm (l.map (·.1)) → sat E w' (G ss * (omap b l * (boxM mb b * H))) → K (.tuple #[]) w') : Calls prog 78 #[y, .pointer (some ⟨mb, 0, none⟩)] w (Ret K) := by
  refine c78 ?_
  unfold B78
  refine ld_in (b := mb) (v := .map (some b)) h rfl ?_
  refine range_sl h fun i w h => ?_
  refine lp_nat (fun q σ w => ∃ (rest : List (Int × Value)) (ss : List Int), σ = [] ∧ q = rest.length ∧ (ss ++ rest.map (·.1)).Perm (l.map (·.1)) ∧ sat E w (omit_ i b l rest * (G ss * (boxM mb b * H)))) l.length ⟨l, [], rfl, rfl, List.Perm.refl _, h⟩ ?_
  clear h
  rintro q σ w again ⟨rest, ss, rfl, rfl, hp, h⟩ hag
  rw [fin_nil]
  refine next_sl (i := i) (b := b) (l := l) (rest := rest) h (fun h0 => ?_) (fun j x w hj hen h => ?_)
  · subst h0
    rw [o_extract, cd_false]
    simp only [List.map_nil, List.append_nil] at hp
    exact k ss w hp ((omit_close h).perm (star_left_comm _ _ _))
  · rw [o_extract, cd_true]
    refine efv_of hen ?_
    rw [o_extract]
    have hlt := (List.getElem?_eq_some_iff.1 hj).1
    have hl := hp.length_eq
    simp only [List.length_append, List.length_map] at hl
    have h := h.perm (show _ = G ss * (omit_ i b l (rest.eraseIdx j) * (boxM mb b * H)) by ac_rfl)
    refine hy ss x.1 _ w _ (by omega) h fun w h => ?_
    rw [o_not, Bool.not_true, cd_false]
    refine hag (rest.eraseIdx j).length _ _ (by rw [List.length_eraseIdx, if_pos hlt]; omega) ⟨rest.eraseIdx j, ss ++ [x.1], rfl, rfl, ?_, h.perm (by ac_rfl)⟩
    refine List.Perm.trans ?_ hp
    rw [List.append_assoc]
    refine List.Perm.append_left ss ?_
    exact (erase_perm hj).map (·.1)
theorem iv_one (l : List Int) : ∀ x ∈ l.map iv, x.oneCell' = true := by
  intro x hx
  obtain ⟨_, _, rfl⟩ := List.mem_map.1 hx
  rfl
theorem AppendSeq_spec {b mb : Nat} {l : List (Int × Value)} (hl : l.length ≤ 1000000) (h : sat E w (omap b l * (boxM mb b * H)))
    (k : ∀ (u : Value) (ss : List Int) w', ss.Perm (l.map (·.1)) → sat E w' (osl 3 1 u ss.length (ss.map iv) * (omap b l * (boxM mb b * H))) → K u w') :
    Calls prog 98 #[.slice none 0 0, .func (.func 78) #[] #[.pointer (some ⟨mb, 0, none⟩)]] w (Ret K) := by
  refine c98 ?_
  unfold B98
  refine box_sl h fun sb w h => ?_
  have h : sat E w (pts sb (.cells [Value.slice none 0 0].toArray 23 (0, 0)) * (omap b l * (boxM mb b * H))) := h
  refine rng_body h Tryz.func78 (by kernel_rfl) (by kernel_rfl) fun rec D D1 w h hround => ?_
  have h : sat E w (ex (fun v : Value => pts D1 (rec .ready none) * (pts sb (.cells [v].toArray 23 (0, 0)) * osl 3 1 v ([] : List Int).length (([] : List Int).map iv))) * (omap b l * (boxM mb b * (pts D (.deferred (some [])) * H)))) := by
    refine sat_ex_star.2 ⟨.slice none 0 0, ?_⟩
    have h := osl_nil h 3 1
    exact h.perm (by ac_rfl)
  refine KeysIt_spec (fun ss => ex fun v : Value => pts D1 (rec .ready none) * (pts sb (.cells [v].toArray 23 (0, 0)) * osl 3 1 v ss.length (ss.map iv))) h ?_ ?_
  · clear h
    intro ss x F w K' hlt h ht
    obtain ⟨v, h⟩ := sat_ex_star.1 h
    refine hround [.int .i64 x] w K' rfl h.has ?_
    rw [pop_cons, fin_nil]
    refine ⟨h.has, ?_⟩
    have h := (h.own D1).set (rec .busy none)
    refine ld_in (b := sb) (v := v) h rfl ?_
    refine push_sl (v := v) h rfl rfl (by omega) (by omega) fun v2 w h => ?_
    have hone : v2.oneCell' = true := by
      obtain ⟨_, _, rfl, _⟩ := osl_shape h
      rfl
    refine store_sl (b := sb) h hone (by simp) fun w h => ?_
    have h : sat E w (pts sb (.cells [v2].toArray 23 (0, 0)) * _) := h
    refine ⟨h.has, ht _ ?_⟩
    have h := (h.own D1).set (rec .ready none)
    refine sat_ex_star.2 ⟨v2, ?_⟩
    rw [List.length_append, List.map_append]
    exact h.perm (by simp only [List.map_cons, List.map_nil, List.length_singleton, iv]; ac_rfl)
  · clear h
    intro ss w hp h
    obtain ⟨v, h⟩ := sat_ex_star.1 h
    refine ⟨.ready, none, h.has, by simp, ?_⟩
    have h := (h.own D1).set (rec .exhausted none)
    simp only [jump]
    refine ld_in (b := sb) (v := v) h rfl ?_
    refine ⟨h.has, ?_⟩
    have h := (h.own D).set (.deferred none)
    refine k v ss _ hp ?_
    have h := h.perm (show _ = pts D (.deferred none) * (pts D1 (rec .exhausted none) * (pts sb (.cells [v].toArray 23 (0, 0)) * (osl 3 1 v ss.length (ss.map iv) * (omap b l * (boxM mb b * H))))) by ac_rfl)
    exact h.drop.drop.drop
theorem Sort_spec {v : Value} {zs : List Int} (h : sat E w (osl 3 1 v zs.length (zs.map iv) * R)) (hl : zs.length ≤ 1000000)
    (k : ∀ w', sat E w' (osl 3 1 v zs.length ((zs.mergeSort fun x y => decide (x ≤ y)).map iv) * R) → K (.tuple #[]) w') : Calls prog 76 #[v] w (Ret K) :=
  sort_sl (P := prog) (f := 76) (fun blk off cap zs w hH hb hz => AnyM.slices_Sort_int sortL blk off cap zs w hH hb hz) (fun p cap w => AnyM.slices_Sort_int_none sortL p cap w) h hl k
/-- The keys of a map, rising. -/
theorem SortedKeys_spec {b : Nat} {l : List (Int × Value)} (hl : l.length ≤ 1000000) (h : sat E w (omap b l * H))
    (k : ∀ (u : Value) (ss : List Int) w', ss.Perm (l.map (·.1)) → ss.Pairwise (· ≤ ·) → sat E w' (osl 3 1 u ss.length (ss.map iv) * (omap b l * H)) → K u w') :
    Calls prog 67 #[.map (some b)] w (Ret fun t w => Calls prog 65 #[t] w (Ret K)) := by
  refine c67 ?_
  unfold B67
  refine box_sl h fun mb w h => ?_
  have h : sat E w (boxM mb b * (omap b l * H)) := h
  refine pvv_of (v := .func (.func 78) #[] #[.pointer (some ⟨mb, 0, none⟩)]) (fun _ => rfl) ?_
  refine c65 ?_
  unfold B65
  refine c75 ?_
  unfold B75
  refine AppendSeq_spec (H := H) hl (h.perm (star_left_comm _ _ _)) fun u ss w hp h => ?_
  have hsl : ss.length ≤ 1000000 := by
    have := hp.length_eq
    simp only [List.length_map] at this
    omega
  refine Sort_spec h hsl fun w h => ?_
  have hpm := List.mergeSort_perm ss fun x y => decide (x ≤ y)
  refine k u (ss.mergeSort fun x y => decide (x ≤ y)) w (hpm.trans hp) ?_ ?_
  · have := List.pairwise_mergeSort (le := fun x y : Int => decide (x ≤ y)) (by intro a b c; simp; omega) (by intro a b; simp; omega) ss
    exact this.imp (by intro a b h; simpa using h)
  · rw [List.length_mergeSort]
    have h := h.perm (show _ = boxM mb b * (osl 3 1 u ss.length ((ss.mergeSort fun x y => decide (x ≤ y)).map iv) * (omap b l * H)) by ac_rfl)
    exact h.drop
theorem sorted_unique : ∀ {a b : List Int}, a.Perm b → a.Pairwise (· ≤ ·) → b.Pairwise (· < ·) → a = b := by
  intro a b hp ha hb
  exact hp.eq_of_pairwise (fun x y _ _ h1 h2 => by omega) ha (hb.imp (by intro x y h; omega))
end Go.Proofs.YtbcimkjgpplcpaaGreatDoor.KF

/-
  strings.Trim by a set of ASCII signs.
-/
set_option linter.all false
set_option maxRecDepth 100000
namespace Go.Proofs.YtbcimkjgpplcpaaGreatDoor
open Go Hold
variable {E : World0} {w : World} {H R : HP} {K : Value → World → Prop}
/-- The set, as it lies: a place for each byte. -/
def setC (f : Nat → Bool) : List Value := (List.range 256).map fun i => .bool (f i)
theorem setC_length (f : Nat → Bool) : (setC f).length = 256 := by simp [setC]
theorem setC_at (f : Nat → Bool) {i : Nat} (hi : i < 256) : (setC f)[i]? = some (.bool (f i)) := by
  unfold setC
  rw [List.getElem?_map, List.getElem?_range hi]
  rfl
theorem setC_set (f : Nat → Bool) {i : Nat} (hi : i < 256) : (setC f).set i (.bool true) = setC fun j => f j || decide (j = i) := by
  refine List.ext_getElem? fun j => ?_
  rw [List.getElem?_set]
  by_cases hij : i = j
  · subst hij
    rw [if_pos rfl, if_pos (by rw [setC_length]; exact hi), setC_at _ hi]
    simp
  · rw [if_neg hij]
    by_cases hj : j < 256
    · rw [setC_at _ hj, setC_at _ hj]
      have : decide (j = i) = false := decide_eq_false (fun h => hij h.symm)
      simp [this]
    · rw [List.getElem?_eq_none (by rw [setC_length]; omega), List.getElem?_eq_none (by rw [setC_length]; omega)]
def inSet (cs : List UInt8) (i : Nat) : Bool := cs.any fun c => decide (i = c.toNat)
theorem inSet_mem {cs : List UInt8} {b : UInt8} : inSet cs b.toNat = decide (b ∈ cs) := by
  rw [Bool.eq_iff_iff]
  simp only [inSet, List.any_eq_true, decide_eq_true_eq]
  constructor
  · rintro ⟨c, hc, h⟩
    rwa [UInt8.toNat_inj.1 h]
  · exact fun h => ⟨b, h, rfl⟩
theorem contains_spec {b : Nat} {cs : List UInt8} {c : UInt8} (h : sat E w H) [Has H b (.cells (setC (inSet cs)).toArray 126 (0, 0))] (k : K (.bool (decide (c ∈ cs))) w) : Calls prog 107 #[.pointer (some ⟨b, 0, none⟩), bv c] w (Ret K) := by
  have hc := c.toNat_lt
  refine c107 ?_
  unfold B107
  rw [o_nil, show bv c = .int .u8 (c.toNat : Int) from rfl, o_indexA (by omega) (by omega)]
  refine ld_in (b := b) (v := .bool (decide (c ∈ cs))) h ?_ k
  rw [← inSet_mem]
  simp only [Nat.zero_add, Int.toNat_natCast]
  exact setC_at _ (by omega)
theorem makeSet_spec {cs : List UInt8} (hc : ∀ c ∈ cs, c.toNat < 128) (hl : cs.length ≤ 1000) (h : sat E w H) (k : ∀ w', sat E w' H → K (.tuple #[.agg (setC (inSet cs)).toArray, .bool true]) w') : Calls prog 93 #[tv cs] w (Ret K) := by
  refine c93 ?_
  unfold B93
  refine alloc_sl h fun b w h => ?_
  have h : sat E w (pts b (.cells (setC (inSet [])).toArray 126 (0, 0)) * H) := h
  refine lp_nat (fun q σ w => ∃ i : Nat, σ = [.int .i64 (i : Int)] ∧ q = cs.length - i ∧ i ≤ cs.length ∧ sat E w (pts b (.cells (setC (inSet (cs.take i))).toArray 126 (0, 0)) * H)) cs.length ⟨0, rfl, by omega, by omega, by simpa using h⟩ ?_
  clear h
  rintro q σ w again ⟨i, rfl, rfl, hi, h⟩ hag
  rw [pop_cons, fin_nil, o_lenT, o_lss]
  refine cd_dec (fun hlt => ?_) (fun hge => ?_)
  · have hi1 : i < cs.length := by omega
    have hm : cs.getD i 0 ∈ cs := by rw [List.getD_eq_getElem?_getD, List.getElem?_eq_getElem hi1]; exact List.getElem_mem hi1
    have hlt := hc _ hm
    have hb := (cs.getD i 0).toNat_lt
    rw [o_indexT (by omega) (by rw [Int.toNat_natCast]; exact hi1), Int.toNat_natCast, show bv (cs.getD i 0) = .int .u8 ((cs.getD i 0).toNat : Int) from rfl, o_geq, show decide ((128 : Int) ≤ ((cs.getD i 0).toNat : Int)) = false from decide_eq_false (by omega), cd_false]
    rw [o_indexA (by omega) (by omega)]
    simp only [Nat.zero_add, Int.toNat_natCast]
    refine store_sl (b := b) h rfl (by rw [setC_length]; omega) fun w h => ?_
    rw [o_add, i64_of (by omega) (by omega)]
    refine hag (cs.length - (i + 1)) _ _ (by omega) ⟨i + 1, rfl, rfl, by omega, ?_⟩
    rw [setC_set _ (by omega)] at h
    have e : (fun j => inSet (cs.take i) j || decide (j = (cs.getD i 0).toNat)) = inSet (cs.take (i + 1)) := by
      funext j
      have : cs.getD i 0 = cs[i] := by rw [List.getD_eq_getElem?_getD, List.getElem?_eq_getElem hi1]; rfl
      unfold inSet
      rw [List.take_succ_eq_append_getElem hi1, List.any_append, this]
      simp only [List.any_cons, List.any_nil, Bool.or_false]
    rw [e] at h
    exact h
  · have hi2 : i = cs.length := by omega
    subst hi2
    rw [List.take_length] at h
    have ho : ∀ x ∈ setC (inSet cs), x.oneCell' = true := by
      intro x hx
      simp only [setC, List.mem_map] at hx
      obtain ⟨_, _, rfl⟩ := hx
      rfl
    refine ld_agg (b := b) h (setC_length _) ?_
    refine store_all (b := b) h (xs := setC (inSet cs)) (vs := setC (inSet cs)) (setC_length _) (setC_length _) ho fun w h => ?_
    exact res_agg h (b := b) (setC_length _) (k _ h.drop)
def trimR (cs : List UInt8) (l : List UInt8) : List UInt8 := (l.reverse.dropWhile (· ∈ cs)).reverse
def trimL (cs : List UInt8) (l : List UInt8) : List UInt8 := l.dropWhile (· ∈ cs)
theorem trimR_snoc (cs l : List UInt8) (c : UInt8) : trimR cs (l ++ [c]) = if c ∈ cs then trimR cs l else l ++ [c] := by
  unfold trimR
  rw [List.reverse_append, List.reverse_singleton, List.singleton_append, List.dropWhile_cons]
  by_cases h : c ∈ cs
  · simp [h]
  · simp [h]
theorem trimLeft_spec {b : Nat} {cs : List UInt8} (l : List UInt8) (hl : l.length ≤ 9223372036854775807) (h : sat E w H) [Has H b (.cells (setC (inSet cs)).toArray 126 (0, 0))] (k : ∀ w', sat E w' H → K (tv (trimL cs l)) w') : Calls prog 94 #[tv l, .pointer (some ⟨b, 0, none⟩)] w (Ret K) := by
  refine c94 ?_
  unfold B94
  refine jn_cut (fun σ w => σ = [tv (trimL cs l)] ∧ sat E w H) (fun kj hkj => ?_) ?_
  · refine lp_nat (fun q σ w => ∃ m : List UInt8, σ = [tv m] ∧ q = m.length ∧ m.length ≤ l.length ∧ trimL cs m = trimL cs l ∧ sat E w H) l.length ⟨l, rfl, rfl, Nat.le_refl _, rfl, h⟩ ?_
    clear h
    rintro q σ w again ⟨m, rfl, rfl, hm, he, h⟩ hag
    rw [pop_cons, fin_nil, o_lenT, o_gtr]
    cases m with
    | nil =>
      rw [show decide ((0 : Int) < (([] : List UInt8).length : Int)) = false from rfl, cd_false]
      exact hkj _ _ ⟨by rw [← he]; rfl, h⟩
    | cons c m =>
      have hm' : m.length + 1 ≤ l.length := by simpa using hm
      rw [show decide ((0 : Int) < ((c :: m).length : Int)) = true from decide_eq_true (by rw [List.length_cons]; omega), cd_true]
      rw [o_indexT (by omega) (by simp)]
      refine contains_spec (b := b) (cs := cs) (c := c) h ?_
      rw [o_not]
      by_cases hc : c ∈ cs
      · rw [show (!decide (c ∈ cs)) = false by simp [hc], cd_false, o_sliceT_l (by omega) (by rw [List.length_cons]; omega)]
        refine hag m.length _ _ (by simp) ⟨m, rfl, rfl, by omega, ?_, h⟩
        rw [← he]
        simp [trimL, List.dropWhile_cons, hc]
      · rw [show (!decide (c ∈ cs)) = true by simp [hc], cd_true]
        refine hkj _ _ ⟨?_, h⟩
        rw [← he]
        simp [trimL, List.dropWhile_cons, hc]
  · rintro σ w ⟨rfl, h⟩
    rw [pop_cons, fin_nil]
    exact k _ h
theorem trimRight_spec {b : Nat} {cs : List UInt8} (l : List UInt8) (hl : l.length ≤ 9223372036854775807) (h : sat E w H) [Has H b (.cells (setC (inSet cs)).toArray 126 (0, 0))] (k : ∀ w', sat E w' H → K (tv (trimR cs l)) w') : Calls prog 95 #[tv l, .pointer (some ⟨b, 0, none⟩)] w (Ret K) := by
  refine c95 ?_
  unfold B95
  refine jn_cut (fun σ w => σ = [tv (trimR cs l)] ∧ sat E w H) (fun kj hkj => ?_) ?_
  · refine lp_nat (fun q σ w => ∃ m : List UInt8, σ = [tv m] ∧ q = m.length ∧ m.length ≤ l.length ∧ trimR cs m = trimR cs l ∧ sat E w H) l.length ⟨l, rfl, rfl, Nat.le_refl _, rfl, h⟩ ?_
    clear h
    rintro q σ w again ⟨m, rfl, rfl, hm, he, h⟩ hag
    rw [pop_cons, fin_nil, o_lenT, o_gtr]
    rcases List.eq_nil_or_concat m with rfl | ⟨m, c, rfl⟩
    · rw [show decide ((0 : Int) < (([] : List UInt8).length : Int)) = false from rfl, cd_false]
      exact hkj _ _ ⟨by rw [← he]; rfl, h⟩
    · rw [List.concat_eq_append] at hm he hag ⊢
      have hm' : m.length + 1 ≤ l.length := by simpa using hm
      have e1 : (((m ++ [c]).length : Nat) : Int) = (m.length : Int) + 1 := by simp
      rw [show decide ((0 : Int) < ((m ++ [c]).length : Int)) = true from decide_eq_true (by rw [e1]; omega), cd_true, o_lenT, o_sub, e1]
      have e2 : IntKind.i64.wrap ((m.length : Int) + 1 - 1) = ((m.length : Nat) : Int) := by rw [i64_of (by omega) (by omega)]; omega
      rw [e2, o_indexT (by omega) (by simp), Int.toNat_natCast, show (m ++ [c]).getD m.length 0 = c by simp [List.getD_eq_getElem?_getD]]
      refine contains_spec (b := b) (cs := cs) (c := c) h ?_
      rw [o_not]
      rw [trimR_snoc] at he
      by_cases hc : c ∈ cs
      · rw [show (!decide (c ∈ cs)) = false by simp [hc], cd_false, o_lenT, o_sub, e1, e2, o_sliceT_h (by omega) (by rw [e1]; omega)]
        rw [if_pos hc] at he
        refine hag m.length _ _ (by simp) ⟨m, by simp, rfl, by omega, he, h⟩
      · rw [show (!decide (c ∈ cs)) = true by simp [hc], cd_true]
        rw [if_neg hc] at he
        exact hkj _ _ ⟨by rw [← he], h⟩
  · rintro σ w ⟨rfl, h⟩
    rw [pop_cons, fin_nil]
    exact k _ h
/-- Trim, by a set of at least two signs. -/
theorem Trim_spec {cs : List UInt8} (l : List UInt8) (hc : ∀ c ∈ cs, c.toNat < 128) (hl2 : 2 ≤ cs.length) (hl : cs.length ≤ 1000) (hl' : l.length ≤ 9223372036854775807) (h : sat E w H) (k : ∀ w', sat E w' H → K (tv (trimL cs (trimR cs l))) w') :
    Calls prog 72 #[tv l, tv cs] w (Ret K) := by
  have e0 : (.string ⟨#[]⟩ : Value) = tv [] := rfl
  refine c72 ?_
  unfold B72
  rw [e0, o_eqT]
  have fin : ∀ w, sat E w H → trimL cs (trimR cs l) = trimL cs (trimR cs l) → Calls prog 93 #[tv cs] w (Ret fun t_16 w =>
      pvv prog (Instr.extract t_16 0) w fun t_17 w =>
      pvv prog (Instr.extract t_16 1) w fun t_18 w =>
      efv prog (Instr.alloc 126 true (.tuple #[])) w fun as_19 w =>
      efu prog (Instr.storeAt 126 as_19 t_17) w fun u_20 w =>
      cd t_18 (
        Calls prog 95 #[tv l, as_19] w (Ret fun t_21 w =>
        Calls prog 94 #[t_21, as_19] w (Ret fun t_22 w =>
        K t_22 w))) <|
      Calls prog 97 #[tv l, tv cs] w (Ret fun t_23 w =>
      Calls prog 96 #[t_23, tv cs] w (Ret fun t_24 w =>
      K t_24 w))) := by
    intro w h _
    refine makeSet_spec hc hl h fun w h => ?_
    rw [o_extract, o_extract]
    refine alloc_sl h fun b w h => ?_
    have h : sat E w (pts b (.cells (setC (inSet [])).toArray 126 (0, 0)) * H) := h
    have ho : ∀ x ∈ setC (inSet cs), x.oneCell' = true := by
      intro x hx
      simp only [setC, List.mem_map] at hx
      obtain ⟨_, _, rfl⟩ := hx
      rfl
    refine store_all (b := b) h (xs := setC (inSet [])) (vs := setC (inSet cs)) (setC_length _) (setC_length _) ho fun w h => ?_
    rw [cd_true]
    refine trimRight_spec (b := b) l hl' h fun w h => ?_
    refine trimLeft_spec (b := b) (trimR cs l) ?_ h fun w h => k _ h.drop
    have : (trimR cs l).length ≤ l.length := by
      unfold trimR
      rw [List.length_reverse]
      exact Nat.le_trans (List.dropWhile_sublist _).length_le (by simp)
    omega
  have hne : ¬ cs = [] := by rintro rfl; simp at hl2
  have h1 : ¬ ((cs.length : Int) = 1) := by omega
  by_cases hl0 : l = []
  · simp only [hl0, ↓o_nil, ↓o_field, ↓o_add, ↓o_sub, ↓o_mul, ↓o_lss, ↓o_leq, ↓o_gtr, ↓o_geq, ↓o_not, ↓o_pick, ↓o_eqInt, ↓o_neInt, ↓o_eqBool, ↓o_neBool, ↓o_eqPtr, ↓o_nePtr, ↓o_eqPtr', ↓o_eqSl, ↓o_neSl, ↓o_eqStr, ↓o_neStr, ↓o_len, ↓o_lenS, ↓o_min, ↓o_max, ↓o_extract, ↓o_convInt, ↓cd_true, ↓cd_false, ↓gate_tt, ↓gate_ff, ↓gate_tf, ↓gate_ft, ↓gate_undef, ↓o_bind, ↓stay_v, ↓pop_cons, ↓fin_nil, Option.isNone_none, Option.isNone_some, Bool.not_true, Bool.not_false, Nat.zero_add, decide_true, decide_false, if_true, if_false, Bool.false_eq_true, ↓reduceIte]
    have := k w h
    rw [hl0] at this
    exact this
  · simp only [hl0, hne, ↓o_eqT, ↓o_lenT, h1, ↓o_nil, ↓o_field, ↓o_add, ↓o_sub, ↓o_mul, ↓o_lss, ↓o_leq, ↓o_gtr, ↓o_geq, ↓o_not, ↓o_pick, ↓o_eqInt, ↓o_neInt, ↓o_eqBool, ↓o_neBool, ↓o_eqPtr, ↓o_nePtr, ↓o_eqPtr', ↓o_eqSl, ↓o_neSl, ↓o_eqStr, ↓o_neStr, ↓o_len, ↓o_lenS, ↓o_min, ↓o_max, ↓o_extract, ↓o_convInt, ↓cd_true, ↓cd_false, ↓gate_tt, ↓gate_ff, ↓gate_tf, ↓gate_ft, ↓gate_undef, ↓o_bind, ↓stay_v, ↓pop_cons, ↓fin_nil, Option.isNone_none, Option.isNone_some, Bool.not_true, Bool.not_false, Nat.zero_add, decide_true, decide_false, if_true, if_false, Bool.false_eq_true, ↓reduceIte]
    exact fin w h rfl
theorem dw (cs : List UInt8) : ∀ m : List UInt8, m.dropWhile (fun x => decide (x ∈ cs)) = [] ↔ ∀ c ∈ m, c ∈ cs
  | [] => by simp
  | c :: m => by
    have ih := dw cs m
    rw [List.dropWhile_cons]
    by_cases h : c ∈ cs
    · simp [h, ih]
    · simp [h]
theorem dw_head (cs : List UInt8) : ∀ m : List UInt8, m.dropWhile (fun x => decide (x ∈ cs)) ≠ [] → ∃ c ∈ m.dropWhile (fun x => decide (x ∈ cs)), c ∉ cs
  | [], h => absurd rfl h
  | c :: m, h => by
    rw [List.dropWhile_cons] at h ⊢
    by_cases hc : c ∈ cs
    · simp only [hc, decide_true, if_true] at h ⊢
      exact dw_head cs m h
    · simp only [hc, decide_false, Bool.false_eq_true, if_false]
      exact ⟨c, by simp, hc⟩
theorem trim_all {cs l : List UInt8} : trimL cs (trimR cs l) = [] ↔ ∀ c ∈ l, c ∈ cs := by
  unfold trimL
  rw [dw]
  constructor
  · intro h c hc
    by_cases hn : trimR cs l = []
    · unfold trimR at hn
      rw [List.reverse_eq_nil_iff, dw] at hn
      exact hn c (by simpa using hc)
    · exfalso
      have hne : l.reverse.dropWhile (fun x => decide (x ∈ cs)) ≠ [] := by
        intro h0
        exact hn (by unfold trimR; rw [h0]; rfl)
      obtain ⟨d, hd1, hd2⟩ := dw_head cs _ hne
      exact hd2 (h d (by unfold trimR; rw [List.mem_reverse]; exact hd1))
  · intro h c hc
    refine h c ?_
    unfold trimR at hc
    rw [List.mem_reverse] at hc
    have := (List.dropWhile_sublist _).subset hc
    simpa using this
end Go.Proofs.YtbcimkjgpplcpaaGreatDoor

/-
  Names: which texts are.
-/
set_option linter.all false
set_option maxRecDepth 100000
namespace Go.Proofs.YtbcimkjgpplcpaaGreatDoor
open Go Hold
variable {E : World0} {w : World} {H R : HP} {K : Value → World → Prop}
/-! Names. -/
def nameSet : List UInt8 := [97, 98, 99, 100, 101, 102, 103, 104, 105, 106, 107, 108, 109, 110, 111, 112, 113, 114, 115, 116, 117, 118, 119, 120, 121, 122, 48, 49, 50, 51, 52, 53, 54, 55, 56, 57, 45]
def isName (l : List UInt8) : Bool := decide (l ≠ []) && decide (l.length ≤ 9) && decide (∀ c ∈ l, c ∈ nameSet)
theorem IsName_spec (h : sat E w H) {l : List UInt8} (hl : l.length ≤ 9223372036854775807) (k : ∀ w', sat E w' H → K (.bool (isName l)) w') : Calls prog 48 #[tv l] w (Ret K) := by
  have e0 : (.string ⟨#[]⟩ : Value) = tv [] := rfl
  have e1 : (.string ⟨#[97, 98, 99, 100, 101, 102, 103, 104, 105, 106, 107, 108, 109, 110, 111, 112, 113, 114, 115, 116, 117, 118, 119, 120, 121, 122, 48, 49, 50, 51, 52, 53, 54, 55, 56, 57, 45]⟩ : Value) = tv nameSet := rfl
  refine c48 ?_
  unfold B48
  rw [e0, e1, o_neT]
  by_cases h0 : l = []
  · have e : isName l = false := by simp [isName, h0]
    rw [e] at k
    simp only [h0, ↓o_nil, ↓o_field, ↓o_add, ↓o_sub, ↓o_mul, ↓o_lss, ↓o_leq, ↓o_gtr, ↓o_geq, ↓o_not, ↓o_pick, ↓o_eqInt, ↓o_neInt, ↓o_eqBool, ↓o_neBool, ↓o_eqPtr, ↓o_nePtr, ↓o_eqPtr', ↓o_eqSl, ↓o_neSl, ↓o_eqStr, ↓o_neStr, ↓o_len, ↓o_lenS, ↓o_min, ↓o_max, ↓o_extract, ↓o_convInt, ↓cd_true, ↓cd_false, ↓gate_tt, ↓gate_ff, ↓gate_tf, ↓gate_ft, ↓gate_undef, ↓o_bind, ↓stay_v, ↓pop_cons, ↓fin_nil, Option.isNone_none, Option.isNone_some, Bool.not_true, Bool.not_false, Nat.zero_add, decide_true, decide_false, if_true, if_false, Bool.false_eq_true, ↓reduceIte]
    exact k _ h
  · simp only [h0, ↓o_nil, ↓o_field, ↓o_add, ↓o_sub, ↓o_mul, ↓o_lss, ↓o_leq, ↓o_gtr, ↓o_geq, ↓o_not, ↓o_pick, ↓o_eqInt, ↓o_neInt, ↓o_eqBool, ↓o_neBool, ↓o_eqPtr, ↓o_nePtr, ↓o_eqPtr', ↓o_eqSl, ↓o_neSl, ↓o_eqStr, ↓o_neStr, ↓o_len, ↓o_lenS, ↓o_min, ↓o_max, ↓o_extract, ↓o_convInt, ↓cd_true, ↓cd_false, ↓gate_tt, ↓gate_ff, ↓gate_tf, ↓gate_ft, ↓gate_undef, ↓o_bind, ↓stay_v, ↓pop_cons, ↓fin_nil, Option.isNone_none, Option.isNone_some, Bool.not_true, Bool.not_false, Nat.zero_add, decide_true, decide_false, if_true, if_false, Bool.false_eq_true, ↓reduceIte]
    rw [o_lenT, o_leq]
    by_cases h9 : l.length ≤ 9
    · have t9 : decide ((l.length : Int) ≤ 9) = true := decide_eq_true (by omega)
      simp only [t9, ↓o_nil, ↓o_field, ↓o_add, ↓o_sub, ↓o_mul, ↓o_lss, ↓o_leq, ↓o_gtr, ↓o_geq, ↓o_not, ↓o_pick, ↓o_eqInt, ↓o_neInt, ↓o_eqBool, ↓o_neBool, ↓o_eqPtr, ↓o_nePtr, ↓o_eqPtr', ↓o_eqSl, ↓o_neSl, ↓o_eqStr, ↓o_neStr, ↓o_len, ↓o_lenS, ↓o_min, ↓o_max, ↓o_extract, ↓o_convInt, ↓cd_true, ↓cd_false, ↓gate_tt, ↓gate_ff, ↓gate_tf, ↓gate_ft, ↓gate_undef, ↓o_bind, ↓stay_v, ↓pop_cons, ↓fin_nil, Option.isNone_none, Option.isNone_some, Bool.not_true, Bool.not_false, Nat.zero_add, decide_true, decide_false, if_true, if_false, Bool.false_eq_true, ↓reduceIte]
      refine Trim_spec l (by decide) (by decide) (by decide) hl h fun w h => ?_
      rw [o_eqT]
      have e : isName l = decide (trimL nameSet (trimR nameSet l) = []) := by
        unfold isName
        rw [decide_eq_true h0, decide_eq_true h9, Bool.true_and, Bool.true_and, decide_eq_decide]
        exact trim_all.symm
      rw [← e]
      try simp only [↓o_nil, ↓o_field, ↓o_add, ↓o_sub, ↓o_mul, ↓o_lss, ↓o_leq, ↓o_gtr, ↓o_geq, ↓o_not, ↓o_pick, ↓o_eqInt, ↓o_neInt, ↓o_eqBool, ↓o_neBool, ↓o_eqPtr, ↓o_nePtr, ↓o_eqPtr', ↓o_eqSl, ↓o_neSl, ↓o_eqStr, ↓o_neStr, ↓o_len, ↓o_lenS, ↓o_min, ↓o_max, ↓o_extract, ↓o_convInt, ↓cd_true, ↓cd_false, ↓gate_tt, ↓gate_ff, ↓gate_tf, ↓gate_ft, ↓gate_undef, ↓o_bind, ↓stay_v, ↓pop_cons, ↓fin_nil, Option.isNone_none, Option.isNone_some, Bool.not_true, Bool.not_false, Nat.zero_add, decide_true, decide_false, if_true, if_false, Bool.false_eq_true, ↓reduceIte]
      exact k _ h
    · have t9 : decide ((l.length : Int) ≤ 9) = false := decide_eq_false (by omega)
      have e : isName l = false := by
        unfold isName
        rw [decide_eq_false h9]
        simp
      rw [e] at k
      simp only [t9, ↓o_nil, ↓o_field, ↓o_add, ↓o_sub, ↓o_mul, ↓o_lss, ↓o_leq, ↓o_gtr, ↓o_geq, ↓o_not, ↓o_pick, ↓o_eqInt, ↓o_neInt, ↓o_eqBool, ↓o_neBool, ↓o_eqPtr, ↓o_nePtr, ↓o_eqPtr', ↓o_eqSl, ↓o_neSl, ↓o_eqStr, ↓o_neStr, ↓o_len, ↓o_lenS, ↓o_min, ↓o_max, ↓o_extract, ↓o_convInt, ↓cd_true, ↓cd_false, ↓gate_tt, ↓gate_ff, ↓gate_tf, ↓gate_ft, ↓gate_undef, ↓o_bind, ↓stay_v, ↓pop_cons, ↓fin_nil, Option.isNone_none, Option.isNone_some, Bool.not_true, Bool.not_false, Nat.zero_add, decide_true, decide_false, if_true, if_false, Bool.false_eq_true, ↓reduceIte]
      exact k _ h
end Go.Proofs.YtbcimkjgpplcpaaGreatDoor
