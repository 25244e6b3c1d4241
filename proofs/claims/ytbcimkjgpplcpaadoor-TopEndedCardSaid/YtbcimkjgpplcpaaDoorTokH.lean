/-
  slices.Sorted(maps.Keys(m)): the map's keys, rising.
-/
import Derived.Test.YtbcimkjgpplcpaaDoorPB
import Derived.Test.YtbcimkjgpplcpaaDoorPS
import Derived.Test.YtbcimkjgpplcpaaDoorSortK
import Derived.Test.YtbcimkjgpplcpaaDoorNames
import Derived.Test.YtbcimkjgpplcpaaDoorElems
import Derived.Test.YtbcimkjgpplcpaaDoorTokF
set_option linter.all false
set_option maxRecDepth 100000
namespace Go.Proofs.YtbcimkjgpplcpaaDoor
open Go Hold
variable {E : World0} {w : World} {H R : HP} {K : Value → World → Prop}
def boxM (mb b : Nat) : HP := pts mb (.cells #[.map (some b)] 92 (0, 0))
instance hasM (mb b : Nat) : Has (boxM mb b) mb (.cells [Value.map (some b)].toArray 92 (0, 0)) := ⟨fun h => (h.perm (star_emp _).symm).pts_get⟩
theorem erase_perm {α : Type} {l : List α} {j : Nat} {x : α} (h : l[j]? = some x) : (x :: l.eraseIdx j).Perm l := by
  induction l generalizing j with
  | nil => simp at h
  | cons y l ih =>
    cases j with
    | zero => simp at h; subst h; exact List.Perm.refl _
    | succ j =>
      simp only [List.getElem?_cons_succ] at h
      rw [List.eraseIdx_cons_succ]
      exact (List.Perm.swap y x _).trans ((ih h).cons y)
theorem KeysIt_spec {b mb : Nat} {l : List (Int × Value)} {y : Value} (G : List Int → HP) (h : sat E w (G [] * (omap b l * (boxM mb b * H))))
    (hy : ∀ (ss : List Int) (x : Int) (F : HP) (w : World) (K' : Value → World → Prop), ss.length < l.length → sat E w (G ss * F) → (∀ w', sat E w' (G (ss ++ [x]) * F) → K' (.bool true) w') → ef prog (oCall y #[.int .i64 x]) w K')
    (k : ∀ (ss : List Int) w', ss.Perm (l.map (·.1)) → sat E w' (G ss * (omap b l * (boxM mb b * H))) → K (.tuple #[]) w') : Calls prog 85 #[y, .pointer (some ⟨mb, 0, none⟩)] w (Ret K) := by
  refine c85 ?_
  unfold B85
  refine ld_in (b := mb) (v := .map (some b)) h rfl ?_
  refine range_sl h fun i w h => ?_
  refine lp_nat (fun q σ w => ∃ (rest : List (Int × Value)) (ss : List Int), σ = [] ∧ q = rest.length ∧ (ss ++ rest.map (·.1)).Perm (l.map (·.1)) ∧ sat E w (omit_ i b l rest * (G ss * (boxM mb b * H)))) l.length ⟨l, [], rfl, rfl, List.Perm.refl _, h⟩ ?_
  clear h
  rintro q σ w again ⟨rest, ss, rfl, rfl, hp, h⟩ hag
  rw [fin_nil]
  refine next_sl (i := i) (b := b) (l := l) (rest := rest) h (fun h0 => ?_) (fun j x w hj hen h => ?_)
  · subst h0
    rw [o_extract, cd_false]
    simp only [List.map_nil, List.append_nil] at hp
    exact k ss w hp ((omit_close h).perm (star_left_comm _ _ _))
  · rw [o_extract, cd_true]
    refine efv_of hen ?_
    rw [o_extract]
    have hlt := (List.getElem?_eq_some_iff.1 hj).1
    have hl := hp.length_eq
    simp only [List.length_append, List.length_map] at hl
    have h := h.perm (show _ = G ss * (omit_ i b l (rest.eraseIdx j) * (boxM mb b * H)) by ac_rfl)
    refine hy ss x.1 _ w _ (by omega) h fun w h => ?_
    rw [o_not, Bool.not_true, cd_false]
    refine hag (rest.eraseIdx j).length _ _ (by rw [List.length_eraseIdx, if_pos hlt]; omega) ⟨rest.eraseIdx j, ss ++ [x.1], rfl, rfl, ?_, h.perm (by ac_rfl)⟩
    refine List.Perm.trans ?_ hp
    rw [List.append_assoc]
    refine List.Perm.append_left ss ?_
    exact (erase_perm hj).map (·.1)
theorem iv_one (l : List Int) : ∀ x ∈ l.map iv, x.oneCell' = true := by
  intro x hx
  obtain ⟨_, _, rfl⟩ := List.mem_map.1 hx
  rfl
theorem AppendSeq_spec {b mb : Nat} {l : List (Int × Value)} (hl : l.length ≤ 1000000) (h : sat E w (omap b l * (boxM mb b * H)))
    (k : ∀ (u : Value) (ss : List Int) w', ss.Perm (l.map (·.1)) → sat E w' (osl 3 1 u ss.length (ss.map iv) * (omap b l * (boxM mb b * H))) → K u w') :
    Calls prog 90 #[.slice none 0 0, .func (.func 85) #[] #[.pointer (some ⟨mb, 0, none⟩)]] w (Ret K) := by
  refine c90 ?_
  unfold B90
  refine box_sl h fun sb w h => ?_
  have h : sat E w (pts sb (.cells [Value.slice none 0 0].toArray 41 (0, 0)) * (omap b l * (boxM mb b * H))) := h
  refine rng_body h Tryd.func85 (by kernel_rfl) (by kernel_rfl) fun rec D D1 w h hround => ?_
  have h : sat E w (ex (fun v : Value => pts D1 (rec .ready none) * (pts sb (.cells [v].toArray 41 (0, 0)) * osl 3 1 v ([] : List Int).length (([] : List Int).map iv))) * (omap b l * (boxM mb b * (pts D (.deferred (some [])) * H)))) := by
    refine sat_ex_star.2 ⟨.slice none 0 0, ?_⟩
    have h := osl_nil h 3 1
    exact h.perm (by ac_rfl)
  refine KeysIt_spec (fun ss => ex fun v : Value => pts D1 (rec .ready none) * (pts sb (.cells [v].toArray 41 (0, 0)) * osl 3 1 v ss.length (ss.map iv))) h ?_ ?_
  · clear h
    intro ss x F w K' hlt h ht
    obtain ⟨v, h⟩ := sat_ex_star.1 h
    refine hround [.int .i64 x] w K' rfl h.has ?_
    rw [pop_cons, fin_nil]
    refine ⟨h.has, ?_⟩
    have h := (h.own D1).set (rec .busy none)
    refine ld_in (b := sb) (v := v) h rfl ?_
    refine push_sl (v := v) h rfl rfl (by omega) (by omega) fun v2 w h => ?_
    have hone : v2.oneCell' = true := by
      obtain ⟨_, _, rfl, _⟩ := osl_shape h
      rfl
    refine store_sl (b := sb) h hone (by simp) fun w h => ?_
    have h : sat E w (pts sb (.cells [v2].toArray 41 (0, 0)) * _) := h
    refine ⟨h.has, ht _ ?_⟩
    have h := (h.own D1).set (rec .ready none)
    refine sat_ex_star.2 ⟨v2, ?_⟩
    rw [List.length_append, List.map_append]
    exact h.perm (by simp only [List.map_cons, List.map_nil, List.length_singleton, iv]; ac_rfl)
  · clear h
    intro ss w hp h
    obtain ⟨v, h⟩ := sat_ex_star.1 h
    refine ⟨.ready, none, h.has, by simp, ?_⟩
    have h := (h.own D1).set (rec .exhausted none)
    simp only [jump]
    refine ld_in (b := sb) (v := v) h rfl ?_
    refine ⟨h.has, ?_⟩
    have h := (h.own D).set (.deferred none)
    refine k v ss _ hp ?_
    have h := h.perm (show _ = pts D (.deferred none) * (pts D1 (rec .exhausted none) * (pts sb (.cells [v].toArray 41 (0, 0)) * (osl 3 1 v ss.length (ss.map iv) * (omap b l * (boxM mb b * H))))) by ac_rfl)
    exact h.drop.drop.drop
theorem Sort_spec {v : Value} {zs : List Int} (h : sat E w (osl 3 1 v zs.length (zs.map iv) * R)) (hl : zs.length ≤ 1000000)
    (k : ∀ w', sat E w' (osl 3 1 v zs.length ((zs.mergeSort fun x y => decide (x ≤ y)).map iv) * R) → K (.tuple #[]) w') : Calls prog 82 #[v] w (Ret K) :=
  sort_sl (P := prog) (f := 82) (fun blk off cap zs w hH hb hz => AnyM.slices_Sort_int sortL blk off cap zs w hH hb hz) (fun p cap w => AnyM.slices_Sort_int_none sortL p cap w) h hl k
/-- The keys of a map, rising. -/
theorem SortedKeys_spec {b : Nat} {l : List (Int × Value)} (hl : l.length ≤ 1000000) (h : sat E w (omap b l * H))
    (k : ∀ (u : Value) (ss : List Int) w', ss.Perm (l.map (·.1)) → ss.Pairwise (· ≤ ·) → sat E w' (osl 3 1 u ss.length (ss.map iv) * (omap b l * H)) → K u w') :
    Calls prog 71 #[.map (some b)] w (Ret fun t w => Calls prog 57 #[t] w (Ret K)) := by
  refine c71 ?_
  unfold B71
  refine box_sl h fun mb w h => ?_
  have h : sat E w (boxM mb b * (omap b l * H)) := h
  refine pvv_of (v := .func (.func 85) #[] #[.pointer (some ⟨mb, 0, none⟩)]) (fun _ => rfl) ?_
  refine c57 ?_
  unfold B57
  refine c81 ?_
  unfold B81
  refine AppendSeq_spec (H := H) hl (h.perm (star_left_comm _ _ _)) fun u ss w hp h => ?_
  have hsl : ss.length ≤ 1000000 := by
    have := hp.length_eq
    simp only [List.length_map] at this
    omega
  refine Sort_spec h hsl fun w h => ?_
  have hpm := List.mergeSort_perm ss fun x y => decide (x ≤ y)
  refine k u (ss.mergeSort fun x y => decide (x ≤ y)) w (hpm.trans hp) ?_ ?_
  · have := List.pairwise_mergeSort (le := fun x y : Int => decide (x ≤ y)) (by intro a b c; simp; omega) (by intro a b; simp; omega) ss
    exact this.imp (by intro a b h; simpa using h)
  · rw [List.length_mergeSort]
    have h := h.perm (show _ = boxM mb b * (osl 3 1 u ss.length ((ss.mergeSort fun x y => decide (x ≤ y)).map iv) * (omap b l * H)) by ac_rfl)
    exact h.drop
theorem sorted_unique : ∀ {a b : List Int}, a.Perm b → a.Pairwise (· ≤ ·) → b.Pairwise (· < ·) → a = b := by
  intro a b hp ha hb
  exact hp.eq_of_pairwise (fun x y _ _ h1 h2 => by omega) ha (hb.imp (by intro x y h; omega))
end Go.Proofs.YtbcimkjgpplcpaaDoor

/-
  Sessions: what a table does, in plain words of lists; names; times.
-/
set_option linter.all false
set_option maxRecDepth 100000
namespace Go.Proofs.YtbcimkjgpplcpaaDoor
open Go Hold
variable {E : World0} {w : World} {H R : HP} {K : Value → World → Prop}
structure Ses where
  id : Int
  tn : List UInt8
  us : List UInt8
  since : Int
  used : Int
  deriving DecidableEq
structure Own2 where
  tn : List UInt8
  us : List UInt8
  deriving DecidableEq
def ocells (o : Own2) : List Value := [tv o.tn, tv o.us]
def scells (x : Ses) : List Value := [.int .i64 x.id, tv x.tn, tv x.us, .int .i64 x.since, .int .i64 x.used]
def sv (x : Ses) : Value := .agg (scells x).toArray
def svs (l : List Ses) : List Value := l.flatMap scells
def zeroS : Ses := ⟨0, [], [], 0, 0⟩
def Ses.own (x : Ses) : Own2 := ⟨x.tn, x.us⟩
theorem scells_one (x : Ses) : ∀ v ∈ scells x, v.oneCell' = true := by
  intro v hv
  simp [scells] at hv
  rcases hv with rfl | rfl | rfl | rfl | rfl <;> rfl
theorem svs_one (l : List Ses) : ∀ v ∈ svs l, v.oneCell' = true := by
  intro v hv
  obtain ⟨x, _, hx⟩ := List.mem_flatMap.1 hv
  exact scells_one x v hx
theorem svs_length (l : List Ses) : (svs l).length = l.length * 5 := fm_length (k := 5) (fun _ => rfl) l
theorem svs_at {l : List Ses} {i : Nat} {x : Ses} (h : l[i]? = some x) : ((svs l).drop (i * 5)).take 5 = scells x := fm_at (k := 5) (fun _ => rfl) h
theorem svs_append (a b : List Ses) : svs (a ++ b) = svs a ++ svs b := by simp [svs]
theorem svs_cell {l : List Ses} {i f : Nat} {x : Ses} {v : Value} (h : l[i]? = some x) (hf : (scells x)[f]? = some v) : (svs l)[i * 5 + f]? = some v := take_cell (svs_at h) hf
def later (t b : Int) : Int := if 1099511627776 - b < t then 1099511627776 else t + b
def untilS (x : Ses) : Int := min (later x.used 200) (later x.since 1000)
/-- A struct's variable, built. -/
theorem ses_in (h : sat E w H) {x : Ses} {K : Value → World → Prop} (k : ∀ b w', sat E w' (pts b (.cells (scells x).toArray 59 (0, 0)) * H) → K (.pointer (some ⟨b, 0, none⟩)) w') :
    efv prog (Instr.alloc 59 true (.tuple #[])) w fun x' w => efu prog (Instr.storeAt 59 x' (sv x)) w fun _ w => K x' w := by
  refine alloc_sl h fun b w h => ?_
  have h : sat E w (pts b (.cells (scells zeroS).toArray 59 (0, 0)) * H) := h
  exact store_all (b := b) h (xs := scells zeroS) (vs := scells x) rfl rfl (scells_one x) fun w h => k b w h
theorem ses_new (h : sat E w H) {K : Value → World → Prop} (k : ∀ b w', sat E w' (pts b (.cells (scells zeroS).toArray 59 (0, 0)) * H) → K (.pointer (some ⟨b, 0, none⟩)) w') :
    efv prog (Instr.alloc 59 true (.tuple #[])) w K := by
  refine alloc_sl h fun b w h => ?_
  have h : sat E w (pts b (.cells (scells zeroS).toArray 59 (0, 0)) * H) := h
  exact k b w h
theorem zeroS_build {K : Value → World → Prop} (k : K (sv zeroS) w) : pvv prog (Instr.build 59 #[]) w K := pvv_of (fun w => by kernel_rfl) k
/-- What is stored into the results' variable comes back. -/
theorem ses_ret (h : sat E w H) {b : Nat} {x y : Ses} {e : Int} [Own H b (.cells (scells x).toArray 59 (0, 0)) R] (k : ∀ w', sat E w' (pts b (.cells (scells y).toArray 59 (0, 0)) * R) → K (.tuple #[sv y, .int .i64 e]) w') :
    efu prog (Instr.storeAt 59 (.pointer (some ⟨b, 0, none⟩)) (sv y)) w fun _ w => ∃ r, (do loadVar 59 (← asAddr (.pointer (some ⟨b, 0, none⟩)))).run prog w = .ok r w ∧ K (.tuple #[r, .int .i64 e]) w := by
  refine store_all (b := b) h (xs := scells x) (vs := scells y) rfl rfl (scells_one y) fun w h => ?_
  exact res_agg h (b := b) rfl (k w h)
theorem later_spec {t b : Int} (hb : 0 ≤ b ∧ b ≤ 1000) (ht : -9223372036854775808 ≤ t) (k : K (.int .i64 (later t b)) w) : Calls prog 72 #[.int .i64 t, .int .i64 b] w (Ret K) := by
  refine c72 ?_
  unfold B72
  rw [o_sub, i64_of (by omega) (by omega), o_gtr]
  unfold later at k
  by_cases h : 1099511627776 - b < t
  · rw [if_pos h] at k
    rw [decide_eq_true h, cd_true]
    exact k
  · rw [if_neg h] at k
    rw [decide_eq_false h, cd_false, o_add, i64_of (by omega) (by omega)]
    exact k
def okT (x : Ses) : Prop := -9223372036854775808 ≤ x.since ∧ -9223372036854775808 ≤ x.used
theorem Until_spec (h : sat E w H) {x : Ses} (hx : okT x) (k : ∀ w', sat E w' H → K (.int .i64 (untilS x)) w') : Calls prog 50 #[sv x] w (Ret K) := by
  refine c50 ?_
  unfold B50
  refine box_sl h fun b w h => ?_
  have h : sat E w (pts b (.cells (scells x).toArray 59 (0, 0)) * H) := h
  refine dr_sl h fun w h _ => ?_
  simp only [↓o_nil, ↓o_field, ↓o_add, ↓o_sub, ↓o_mul, ↓o_lss, ↓o_leq, ↓o_gtr, ↓o_geq, ↓o_not, ↓o_pick, ↓o_eqInt, ↓o_neInt, ↓o_eqBool, ↓o_neBool, ↓o_eqPtr, ↓o_nePtr, ↓o_eqPtr', ↓o_eqSl, ↓o_neSl, ↓o_eqStr, ↓o_neStr, ↓o_len, ↓o_lenS, ↓o_min, ↓o_max, ↓o_extract, ↓o_convInt, ↓cd_true, ↓cd_false, ↓gate_tt, ↓gate_ff, ↓gate_tf, ↓gate_ft, ↓gate_undef, ↓o_bind, ↓stay_v, ↓pop_cons, ↓fin_nil, Option.isNone_none, Option.isNone_some, Bool.not_true, Bool.not_false, Nat.zero_add, decide_true, decide_false, if_true, if_false, Bool.false_eq_true, ↓reduceIte]
  refine ld_in (b := b) (v := .int .i64 x.used) h rfl ?_
  refine ld_in (b := b) (v := .int .i64 x.since) h rfl ?_
  refine later_spec (by omega) hx.2 ?_
  refine st_in (b := b) (v := .int .i64 x.since) h rfl ?_
  refine later_spec (by omega) hx.1 ?_
  refine st_in (b := b) (v := .int .i64 x.used) h rfl ?_
  rw [o_min]
  exact k _ h.drop
end Go.Proofs.YtbcimkjgpplcpaaDoor

/-
  A table of sessions as it is held; its simple functions.
-/
set_option linter.all false
set_option maxRecDepth 100000
namespace Go.Proofs.YtbcimkjgpplcpaaDoor
open Go Hold
variable {E : World0} {w : World} {H R X : HP} {K : Value → World → Prop}
structure Tb where
  next : Int
  noted : Int
  l : List Ses
structure OkS (t : Tb) (x : Ses) : Prop where
  id1 : 1 ≤ x.id
  id2 : x.id < t.next
  s0 : 0 ≤ x.since
  s1 : x.since ≤ x.used
  u1 : x.used ≤ t.noted
structure OkT (t : Tb) (m : Nat) : Prop where
  n1 : 1 ≤ t.next
  n2 : t.next ≤ m + 1
  t0 : 0 ≤ t.noted
  t1 : t.noted ≤ 1099511627776
  rise : t.l.Pairwise fun x y => x.id < y.id
  all : ∀ x ∈ t.l, OkS t x
  few : t.l.length ≤ m
theorem OkS.okT {t : Tb} {x : Ses} (h : OkS t x) : okT x := ⟨by have := h.s0; omega, by have := h.s0; have := h.s1; omega⟩
def mp (l : List Ses) : List (Int × Value) := l.map fun x => (x.id, sv x)
theorem mp_keys (l : List Ses) : (mp l).map (·.1) = l.map (·.id) := by simp [mp]
theorem mp_length (l : List Ses) : (mp l).length = l.length := by simp [mp]
def findS (l : List Ses) (id : Int) : Option Ses := l.find? fun x => decide (id = x.id)
theorem findM_mp (id : Int) : ∀ l : List Ses, lookM (mp l) id = (findS l id).map sv
  | [] => rfl
  | x :: l => by
    have ih := findM_mp id l
    unfold lookM findS at ih ⊢
    simp only [mp, List.map_cons, findM, List.find?_cons] at ih ⊢
    by_cases h : id = x.id
    · simp [h]
    · simp only [h, if_false, decide_false, Bool.false_eq_true]
      rw [Option.map_map]
      exact ih
theorem findS_at {l : List Ses} (hr : l.Pairwise fun x y => x.id < y.id) {i : Nat} {x : Ses} (h : l[i]? = some x) : findS l x.id = some x := by
  induction l generalizing i with
  | nil => simp at h
  | cons y l ih =>
    obtain ⟨h1, h2⟩ := List.pairwise_cons.1 hr
    unfold findS at ih ⊢
    rw [List.find?_cons]
    cases i with
    | zero => simp at h; subst h; simp
    | succ i =>
      simp only [List.getElem?_cons_succ] at h
      have := h1 x (List.mem_of_getElem? h)
      have hne : ¬ x.id = y.id := by omega
      simp only [hne, decide_false]
      exact ih h2 h
theorem findS_some {l : List Ses} {id : Int} {x : Ses} (h : findS l id = some x) : x ∈ l ∧ x.id = id := by
  unfold findS at h
  refine ⟨List.mem_of_find?_eq_some h, ?_⟩
  have := List.find?_some h
  simpa using (of_decide_eq_true this).symm
def drop1 (l : List Ses) (id : Int) : List Ses := l.filter fun x => decide (x.id ≠ id)
theorem drop1_none {l : List Ses} {id : Int} (h : ∀ y ∈ l, y.id ≠ id) : drop1 l id = l := List.filter_eq_self.2 fun y hy => by simpa using h y hy
theorem delM_mp {id : Int} : ∀ {l : List Ses}, (l.Pairwise fun x y => x.id < y.id) → delM (mp l) id = mp (drop1 l id)
  | [], _ => rfl
  | x :: l, hr => by
    obtain ⟨h1, h2⟩ := List.pairwise_cons.1 hr
    have ih := delM_mp (id := id) h2
    simp only [mp, List.map_cons, delM] at ih ⊢
    by_cases h : id = x.id
    · rw [if_pos h]
      have : drop1 (x :: l) id = l := by
        unfold drop1
        rw [List.filter_cons, if_neg (by simp [h])]
        exact drop1_none fun y hy => by have := h1 y hy; omega
      rw [this]
    · rw [if_neg h, ih]
      have : drop1 (x :: l) id = x :: drop1 l id := by
        unfold drop1
        rw [List.filter_cons, if_pos (by simp; exact fun e => h e.symm)]
      rw [this]
      rfl
def put1 (l : List Ses) (y : Ses) : List Ses := l.map fun x => if x.id = y.id then y else x
theorem putM_new {l : List Ses} {y : Ses} (h : ∀ x ∈ l, x.id < y.id) : putM (mp l) y.id (sv y) = mp (l ++ [y]) := by
  induction l with
  | nil => rfl
  | cons x l ih =>
    have hx := h x (by simp)
    have := ih fun z hz => h z (by simp [hz])
    simp only [mp, List.map_cons, putM, List.cons_append] at this ⊢
    rw [if_neg (by omega), this]
theorem put1_none {l : List Ses} {y : Ses} (h : ∀ x ∈ l, x.id ≠ y.id) : put1 l y = l := by
  unfold put1
  conv => rhs; rw [← List.map_id l]
  exact List.map_congr_left fun x hx => by rw [if_neg (h x hx)]; rfl
theorem putM_old {y : Ses} : ∀ {l : List Ses}, (l.Pairwise fun x y => x.id < y.id) → (∃ x ∈ l, x.id = y.id) → putM (mp l) y.id (sv y) = mp (put1 l y)
  | [], _, h => by obtain ⟨_, h, _⟩ := h; cases h
  | x :: l, hr, h => by
    obtain ⟨h1, h2⟩ := List.pairwise_cons.1 hr
    simp only [mp, List.map_cons, putM, put1]
    by_cases hx : y.id = x.id
    · rw [if_pos hx, if_pos hx.symm]
      have := put1_none (l := l) (y := y) fun z hz => by have := h1 z hz; omega
      unfold put1 at this
      rw [this]
    · rw [if_neg hx, if_neg (fun e => hx e.symm)]
      have := putM_old (l := l) (y := y) h2 (by
        obtain ⟨z, hz, e⟩ := h
        rcases List.mem_cons.1 hz with rfl | hz
        · exact absurd e.symm hx
        · exact ⟨z, hz, e⟩)
      unfold mp put1 at this
      rw [this]
def tcells (t : Tb) (b : Nat) : List Value := [.int .i64 t.noted, .int .i64 t.next, .map (some b)]
abbrev tI (p : Nat) (t : Tb) (b : Nat) (R : HP) : HP := pts p (.cells (tcells t b).toArray 96 (0, 0)) * (omap b (mp t.l) * R)
theorem tI_in {p b : Nat} {t : Tb} (h : sat E w (X * tI p t b R)) : sat E w (tI p t b (X * R)) := by
  unfold tI at h ⊢
  exact h.perm (by ac_rfl)
theorem tI_out {p b : Nat} {t : Tb} (h : sat E w (tI p t b (X * R))) : sat E w (X * tI p t b R) := by
  unfold tI at h ⊢
  exact h.perm (by ac_rfl)
def newT : Tb := ⟨1, 0, []⟩
theorem ok_newT : OkT newT 0 := ⟨by simp [newT], by simp [newT], by simp [newT], by simp [newT], List.Pairwise.nil, by simp [newT], by simp [newT]⟩
theorem New_spec (h : sat E w R) (k : ∀ p b w', sat E w' (tI p newT b R) → K (.pointer (some ⟨p, 0, none⟩)) w') : Calls prog 16 #[] w (Ret K) := by
  refine c16 ?_
  unfold B16
  refine make_map h fun b w h => ?_
  refine pvv_of (v := .agg (tcells newT b).toArray) (fun w => by kernel_rfl) ?_
  refine box_sl h fun p w h => k p b w ?_
  exact h
def timeE (t : Tb) (now : Int) : Int := if now < 0 ∨ 1099511627776 < now then 2 else if now < t.noted then 9 else 0
theorem look_spec (h : sat E w H) {n now : Int} (k : ∀ w', sat E w' H → K (.int .i64 (timeE ⟨0, n, []⟩ now)) w') : Calls prog 70 #[.agg #[.int .i64 n], .int .i64 now] w (Ret K) := by
  refine c70 ?_
  unfold B70
  refine box_sl h fun c w h => ?_
  have h : sat E w (pts c (.cells [Value.int .i64 n].toArray 94 (0, 0)) * H) := h
  rw [o_lss]
  unfold timeE at k
  by_cases h1 : now < 0
  · rw [if_pos (.inl h1)] at k
    simp only [h1, ↓o_nil, ↓o_field, ↓o_add, ↓o_sub, ↓o_mul, ↓o_lss, ↓o_leq, ↓o_gtr, ↓o_geq, ↓o_not, ↓o_pick, ↓o_eqInt, ↓o_neInt, ↓o_eqBool, ↓o_neBool, ↓o_eqPtr, ↓o_nePtr, ↓o_eqPtr', ↓o_eqSl, ↓o_neSl, ↓o_eqStr, ↓o_neStr, ↓o_len, ↓o_lenS, ↓o_min, ↓o_max, ↓o_extract, ↓o_convInt, ↓cd_true, ↓cd_false, ↓gate_tt, ↓gate_ff, ↓gate_tf, ↓gate_ft, ↓gate_undef, ↓o_bind, ↓stay_v, ↓pop_cons, ↓fin_nil, Option.isNone_none, Option.isNone_some, Bool.not_true, Bool.not_false, Nat.zero_add, decide_true, decide_false, if_true, if_false, Bool.false_eq_true, ↓reduceIte]
    exact k _ h.drop
  · by_cases h2 : 1099511627776 < now
    · rw [if_pos (.inr h2)] at k
      simp only [h1, h2, ↓o_nil, ↓o_field, ↓o_add, ↓o_sub, ↓o_mul, ↓o_lss, ↓o_leq, ↓o_gtr, ↓o_geq, ↓o_not, ↓o_pick, ↓o_eqInt, ↓o_neInt, ↓o_eqBool, ↓o_neBool, ↓o_eqPtr, ↓o_nePtr, ↓o_eqPtr', ↓o_eqSl, ↓o_neSl, ↓o_eqStr, ↓o_neStr, ↓o_len, ↓o_lenS, ↓o_min, ↓o_max, ↓o_extract, ↓o_convInt, ↓cd_true, ↓cd_false, ↓gate_tt, ↓gate_ff, ↓gate_tf, ↓gate_ft, ↓gate_undef, ↓o_bind, ↓stay_v, ↓pop_cons, ↓fin_nil, Option.isNone_none, Option.isNone_some, Bool.not_true, Bool.not_false, Nat.zero_add, decide_true, decide_false, if_true, if_false, Bool.false_eq_true, ↓reduceIte]
      exact k _ h.drop
    · rw [if_neg (by omega)] at k
      simp only [h1, h2, ↓o_nil, ↓o_field, ↓o_add, ↓o_sub, ↓o_mul, ↓o_lss, ↓o_leq, ↓o_gtr, ↓o_geq, ↓o_not, ↓o_pick, ↓o_eqInt, ↓o_neInt, ↓o_eqBool, ↓o_neBool, ↓o_eqPtr, ↓o_nePtr, ↓o_eqPtr', ↓o_eqSl, ↓o_neSl, ↓o_eqStr, ↓o_neStr, ↓o_len, ↓o_lenS, ↓o_min, ↓o_max, ↓o_extract, ↓o_convInt, ↓cd_true, ↓cd_false, ↓gate_tt, ↓gate_ff, ↓gate_tf, ↓gate_ft, ↓gate_undef, ↓o_bind, ↓stay_v, ↓pop_cons, ↓fin_nil, Option.isNone_none, Option.isNone_some, Bool.not_true, Bool.not_false, Nat.zero_add, decide_true, decide_false, if_true, if_false, Bool.false_eq_true, ↓reduceIte]
      refine ld_in (b := c) (v := .int .i64 n) h rfl ?_
      rw [o_lss]
      by_cases h3 : now < n
      · rw [if_pos h3] at k
        rw [decide_eq_true h3, cd_true]
        exact k _ h.drop
      · rw [if_neg h3] at k
        rw [decide_eq_false h3, cd_false]
        exact k _ h.drop
theorem time_spec {p b : Nat} {t : Tb} {now : Int} (h : sat E w (tI p t b R)) (k : ∀ w', sat E w' (tI p t b R) → K (.int .i64 (timeE t now)) w') : Calls prog 46 #[.pointer (some ⟨p, 0, none⟩), .int .i64 now] w (Ret K) := by
  refine c46 ?_
  unfold B46
  simp only [↓o_nil, ↓o_field, ↓o_add, ↓o_sub, ↓o_mul, ↓o_lss, ↓o_leq, ↓o_gtr, ↓o_geq, ↓o_not, ↓o_pick, ↓o_eqInt, ↓o_neInt, ↓o_eqBool, ↓o_neBool, ↓o_eqPtr, ↓o_nePtr, ↓o_eqPtr', ↓o_eqSl, ↓o_neSl, ↓o_eqStr, ↓o_neStr, ↓o_len, ↓o_lenS, ↓o_min, ↓o_max, ↓o_extract, ↓o_convInt, ↓cd_true, ↓cd_false, ↓gate_tt, ↓gate_ff, ↓gate_tf, ↓gate_ft, ↓gate_undef, ↓o_bind, ↓stay_v, ↓pop_cons, ↓fin_nil, Option.isNone_none, Option.isNone_some, Bool.not_true, Bool.not_false, Nat.zero_add, decide_true, decide_false, if_true, if_false, Bool.false_eq_true, ↓reduceIte]
  refine ld_part (b := p) h [.int .i64 t.noted] rfl rfl ?_
  exact look_spec h k
theorem time_nil {now : Int} (k : K (.int .i64 1) w) : Calls prog 46 #[.pointer none, .int .i64 now] w (Ret K) := by
  refine c46 ?_
  unfold B46
  simp only [↓o_eqPtr, Option.isNone_none, ↓cd_true]
  exact k
/-- Those that a function takes, by their numbers. -/
theorem all_spec {p b m : Nat} {t : Tb} {f : Value} {pr : Ses → Bool} (ok : OkT t m) (hm : m ≤ 1000000) (h : sat E w (tI p t b H))
    (hf : ∀ (x : Ses) (X : HP) (w : World) (K' : Value → World → Prop), x ∈ t.l → sat E w (X * tI p t b H) → (∀ w', sat E w' (X * tI p t b H) → K' (.bool (pr x)) w') → ef prog (oCall f #[sv x]) w K')
    (k : ∀ u w', sat E w' (osl 59 5 u (t.l.filter pr).length (svs (t.l.filter pr)) * tI p t b H) → K u w') : Calls prog 48 #[.pointer (some ⟨p, 0, none⟩), f] w (Ret K) := by
  have := ok.few
  refine c48 ?_
  unfold B48
  simp only [↓o_nil, ↓o_field, ↓o_add, ↓o_sub, ↓o_mul, ↓o_lss, ↓o_leq, ↓o_gtr, ↓o_geq, ↓o_not, ↓o_pick, ↓o_eqInt, ↓o_neInt, ↓o_eqBool, ↓o_neBool, ↓o_eqPtr, ↓o_nePtr, ↓o_eqPtr', ↓o_eqSl, ↓o_neSl, ↓o_eqStr, ↓o_neStr, ↓o_len, ↓o_lenS, ↓o_min, ↓o_max, ↓o_extract, ↓o_convInt, ↓cd_true, ↓cd_false, ↓gate_tt, ↓gate_ff, ↓gate_tf, ↓gate_ft, ↓gate_undef, ↓o_bind, ↓stay_v, ↓pop_cons, ↓fin_nil, Option.isNone_none, Option.isNone_some, Bool.not_true, Bool.not_false, Nat.zero_add, decide_true, decide_false, if_true, if_false, Bool.false_eq_true, ↓reduceIte]
  refine ld_in (b := p) (v := .map (some b)) h rfl ?_
  refine SortedKeys_spec (l := mp t.l) (by rw [mp_length]; omega) (h.perm (show _ = omap b (mp t.l) * (pts p (.cells (tcells t b).toArray 96 (0, 0)) * H) by unfold tI; ac_rfl)) fun u ss w hp hs h => ?_
  have hss : ss = t.l.map (·.id) := by
    refine sorted_unique (by rw [← mp_keys]; exact hp) hs ?_
    rw [List.pairwise_map]
    exact ok.rise
  subst hss
  rw [List.length_map] at h
  have h : sat E w (osl 3 1 u t.l.length ((t.l.map (·.id)).map iv) * tI p t b H) := by
    unfold tI
    exact h.perm (by ac_rfl)
  obtain ⟨ua, uc, rfl, huc, _, hpos⟩ := osl_shape h
  try simp only [↓o_nil, ↓o_field, ↓o_add, ↓o_sub, ↓o_mul, ↓o_lss, ↓o_leq, ↓o_gtr, ↓o_geq, ↓o_not, ↓o_pick, ↓o_eqInt, ↓o_neInt, ↓o_eqBool, ↓o_neBool, ↓o_eqPtr, ↓o_nePtr, ↓o_eqPtr', ↓o_eqSl, ↓o_neSl, ↓o_eqStr, ↓o_neStr, ↓o_len, ↓o_lenS, ↓o_min, ↓o_max, ↓o_extract, ↓o_convInt, ↓cd_true, ↓cd_false, ↓gate_tt, ↓gate_ff, ↓gate_tf, ↓gate_ft, ↓gate_undef, ↓o_bind, ↓stay_v, ↓pop_cons, ↓fin_nil, Option.isNone_none, Option.isNone_some, Bool.not_true, Bool.not_false, Nat.zero_add, decide_true, decide_false, if_true, if_false, Bool.false_eq_true, ↓reduceIte]
  refine lp_nat (fun q σ w => ∃ (i : Nat) (out : Value), σ = [out, .int .i64 (i : Int)] ∧ q = t.l.length - i ∧ i ≤ t.l.length ∧
      sat E w (osl 59 5 out ((t.l.take i).filter pr).length (svs ((t.l.take i).filter pr)) * (osl 3 1 (.slice ua t.l.length uc) t.l.length ((t.l.map (·.id)).map iv) * tI p t b H))) t.l.length
    ⟨0, _, rfl, by omega, by omega, by simpa [svs] using osl_nil h 59 5⟩ ?_
  clear h
  rintro q σ w again ⟨i, out, rfl, rfl, hi, h⟩ hag
  have hlf : ((t.l.take i).filter pr).length ≤ i := Nat.le_trans (List.length_filter_le _ _) (by simp; omega)
  rw [pop_cons, pop_cons, fin_nil, o_lss]
  refine cd_dec (fun hlt => ?_) (fun hge => ?_)
  · have hi1 : i < t.l.length := by omega
    have hx : t.l[i]? = some t.l[i] := List.getElem?_eq_getElem hi1
    have hmem : t.l[i] ∈ t.l := List.getElem_mem hi1
    have htk : t.l.take (i + 1) = t.l.take i ++ [t.l[i]] := List.take_succ_eq_append_getElem hi1
    generalize t.l[i] = x at hx hmem htk
    have hlook : lookM (mp t.l) x.id = some (sv x) := by rw [findM_mp, findS_at ok.rise hx]; rfl
    obtain ⟨ub, hub⟩ := hpos (by omega)
    subst hub
    refine jn_cut (fun σ w => ∃ out', σ = [out'] ∧ sat E w (osl 59 5 out' ((t.l.take (i + 1)).filter pr).length (svs ((t.l.take (i + 1)).filter pr)) * (osl 3 1 (.slice (some ⟨ub, 0, none⟩) t.l.length uc) t.l.length ((t.l.map (·.id)).map iv) * tI p t b H))) (fun kj hkj => ?_) ?_
    · rw [o_index (by omega) (by omega)]
      have hrd : Rds (osl 59 5 out ((t.l.take i).filter pr).length (svs ((t.l.take i).filter pr)) * (osl 3 1 (.slice (some ⟨ub, 0, none⟩) t.l.length uc) t.l.length ((t.l.map (·.id)).map iv) * tI p t b H)) (.slice (some ⟨ub, 0, none⟩) t.l.length uc) t.l.length ((t.l.map (·.id)).map iv) := Rds.osl.left.right
      refine ld_rd h hrd i (by simp) (v := .int .i64 x.id) (by rw [List.getElem?_map, List.getElem?_map, hx]; rfl) ?_
      try simp only [↓o_nil, ↓o_field, ↓o_add, ↓o_sub, ↓o_mul, ↓o_lss, ↓o_leq, ↓o_gtr, ↓o_geq, ↓o_not, ↓o_pick, ↓o_eqInt, ↓o_neInt, ↓o_eqBool, ↓o_neBool, ↓o_eqPtr, ↓o_nePtr, ↓o_eqPtr', ↓o_eqSl, ↓o_neSl, ↓o_eqStr, ↓o_neStr, ↓o_len, ↓o_lenS, ↓o_min, ↓o_max, ↓o_extract, ↓o_convInt, ↓cd_true, ↓cd_false, ↓gate_tt, ↓gate_ff, ↓gate_tf, ↓gate_ft, ↓gate_undef, ↓o_bind, ↓stay_v, ↓pop_cons, ↓fin_nil, Option.isNone_none, Option.isNone_some, Bool.not_true, Bool.not_false, Nat.zero_add, decide_true, decide_false, if_true, if_false, Bool.false_eq_true, ↓reduceIte]
      refine ld_in (b := p) (v := .map (some b)) h rfl ?_
      refine look1_ld (b := b) h ?_
      rw [hlook, Option.getD_some]
      rw [← star_assoc] at h
      refine hf x _ w _ hmem h fun w h => ?_
      rw [star_assoc] at h
      by_cases hpx : pr x = true
      · rw [hpx, cd_true]
        try simp only [↓o_nil, ↓o_field, ↓o_add, ↓o_sub, ↓o_mul, ↓o_lss, ↓o_leq, ↓o_gtr, ↓o_geq, ↓o_not, ↓o_pick, ↓o_eqInt, ↓o_neInt, ↓o_eqBool, ↓o_neBool, ↓o_eqPtr, ↓o_nePtr, ↓o_eqPtr', ↓o_eqSl, ↓o_neSl, ↓o_eqStr, ↓o_neStr, ↓o_len, ↓o_lenS, ↓o_min, ↓o_max, ↓o_extract, ↓o_convInt, ↓cd_true, ↓cd_false, ↓gate_tt, ↓gate_ff, ↓gate_tf, ↓gate_ft, ↓gate_undef, ↓o_bind, ↓stay_v, ↓pop_cons, ↓fin_nil, Option.isNone_none, Option.isNone_some, Bool.not_true, Bool.not_false, Nat.zero_add, decide_true, decide_false, if_true, if_false, Bool.false_eq_true, ↓reduceIte]
        refine ld_in (b := p) (v := .map (some b)) h rfl ?_
        refine look1_ld (b := b) h ?_
        rw [hlook, Option.getD_some]
        refine buildSlice_sl (e := 59) (cs := (scells x).toArray) h (fun w => by kernel_rfl) fun b5 w h => ?_
        refine append_sl (v := out) h (scells x) (k' := 1) rfl (.inr ⟨b5, 0, _, _, _, rfl, h.pts_get, fun j v hj => by simpa using hj⟩) (scells_one x) (by omega) (by omega) fun v' w h => ?_
        refine hkj _ _ ⟨v', rfl, ?_⟩
        have h := h.lose b5
        have e9 : (t.l.take (i + 1)).filter pr = (t.l.take i).filter pr ++ [x] := by rw [htk, List.filter_append]; simp [hpx]
        rw [e9, svs_append, List.length_append]
        simpa [svs] using h
      · have hpx : pr x = false := by simpa using hpx
        rw [hpx, cd_false]
        refine hkj _ _ ⟨out, rfl, ?_⟩
        have e9 : (t.l.take (i + 1)).filter pr = (t.l.take i).filter pr := by rw [htk, List.filter_append]; simp [hpx]
        rw [e9]
        exact h
    · clear h
      rintro σ w ⟨out', rfl, h⟩
      rw [pop_cons, fin_nil, o_add, i64_of (by omega) (by omega)]
      exact hag (t.l.length - (i + 1)) _ _ (by omega) ⟨i + 1, out', rfl, rfl, by omega, h⟩
  · have hi2 : i = t.l.length := by omega
    subst hi2
    rw [List.take_length] at h
    refine k out w ?_
    have h := h.perm (show _ = osl 3 1 (.slice ua t.l.length uc) t.l.length ((t.l.map (·.id)).map iv) * (osl 59 5 out (t.l.filter pr).length (svs (t.l.filter pr)) * tI p t b H) by ac_rfl)
    exact h.drop
end Go.Proofs.YtbcimkjgpplcpaaDoor

/-
  A table's deeds.
-/
set_option linter.all false
set_option maxRecDepth 100000
namespace Go.Proofs.YtbcimkjgpplcpaaDoor
open Go Hold
variable {E : World0} {w : World} {H R X : HP} {K : Value → World → Prop}
theorem flds23 : ∃ f g : Field, (prog.fieldsOf 53).toList = [f, g] ∧ (f.name == "_") = false ∧ (g.name == "_") = false ∧ f.type = 9 ∧ f.offset = 0 ∧ g.type = 9 ∧ g.offset = 1 :=
  ⟨(prog.fieldsOf 53).toList.getD 0 default, (prog.fieldsOf 53).toList.getD 1 default, by kernel_rfl, by kernel_rfl, by kernel_rfl, by kernel_rfl, by kernel_rfl, by kernel_rfl, by kernel_rfl⟩
theorem run_eq9 (d : Nat) (a b : List UInt8) (w : World) : (Op.equalIn (d + 1) 9 (tv a) (tv b)).run prog w = .ok (decide (a = b)) w := by
  have := run_equalIn_string (P := prog) w d 9 ⟨a.toArray⟩ ⟨b.toArray⟩ ul_9.ul
  rw [beq_lists] at this
  exact this
theorem run_eq23 (d : Nat) (x y : Own2) (w : World) : (Op.eqFields (d + 1) (ocells x).toArray (ocells y).toArray (prog.fieldsOf 53).toList).run prog w = .ok (decide (x = y)) w := by
  obtain ⟨f, g, e, h1, h2, t1, o1, t2, o2⟩ := flds23
  rw [e]
  have h9 := run_eqField (P := prog) (w := w) (d := d + 1) (xs := (ocells x).toArray) (ys := (ocells y).toArray) (fs := [g]) h1 (a := tv x.tn) (b := tv y.tn) (by rw [t1, o1]; exact run_part1 rfl) (by rw [t1, o1]; exact run_part1 rfl) (by rw [t1]; exact run_eq9 d _ _ w)
    (run_eqField h2 (a := tv x.us) (b := tv y.us) (by rw [t2, o2]; exact run_part1 rfl) (by rw [t2, o2]; exact run_part1 rfl) (by rw [t2]; exact run_eq9 d _ _ w) run_eqNone)
  rw [h9]
  congr 1
  rw [Bool.eq_iff_iff]
  obtain ⟨a, b⟩ := x
  obtain ⟨a', b'⟩ := y
  simp
theorem eq23 {x y : Own2} {xo yo : Operand} : pvv prog (oEq .eql 53 xo yo (.agg (ocells x).toArray) (.agg (ocells y).toArray)) w K = K (.bool (decide (x = y))) w := o_eqStruct (by kernel_rfl) (by kernel_rfl) (by kernel_rfl) (run_eq23 9998 x y)
def boxO (ob : Nat) (o : Own2) : HP := pts ob (.cells (ocells o).toArray 53 (0, 0))
instance hasO (ob : Nat) (o : Own2) : Has (boxO ob o) ob (.cells (ocells o).toArray 53 (0, 0)) := ⟨fun h => (h.perm (star_emp _).symm).pts_get⟩
def boxN (nb : Nat) (n : Int) : HP := pts nb (.cells [Value.int .i64 n].toArray 3 (0, 0))
instance hasN (nb : Nat) (n : Int) : Has (boxN nb n) nb (.cells [Value.int .i64 n].toArray 3 (0, 0)) := ⟨fun h => (h.perm (star_emp _).symm).pts_get⟩
def isMine (o : Own2) (now : Int) (x : Ses) : Bool := decide (x.own = o) && decide (now < untilS x)
theorem s_own (x : Ses) : ((scells x).drop 1).take 2 = ocells x.own := rfl
theorem LiveF_spec {ob nb : Nat} {o : Own2} {now : Int} {x : Ses} (hx : okT x) (h : sat E w H) [Has H ob (.cells (ocells o).toArray 53 (0, 0))] [Has H nb (.cells [Value.int .i64 now].toArray 3 (0, 0))]
    (k : ∀ w', sat E w' H → K (.bool (isMine o now x)) w') : ef prog (oCall (.func (.func 54) #[] #[.pointer (some ⟨ob, 0, none⟩), .pointer (some ⟨nb, 0, none⟩)]) #[sv x]) w K := by
  refine oCall_body Tryd.func54 (by kernel_rfl) (by kernel_rfl) ?_
  show Calls prog 54 #[sv x, .pointer (some ⟨ob, 0, none⟩), .pointer (some ⟨nb, 0, none⟩)] w (Ret K)
  refine c54 ?_
  unfold B54
  refine box_sl h fun b w h => ?_
  have h : sat E w (pts b (.cells (scells x).toArray 59 (0, 0)) * H) := h
  refine dr_sl h fun w h _ => ?_
  try simp only [↓o_nil, ↓o_field, ↓o_add, ↓o_sub, ↓o_mul, ↓o_lss, ↓o_leq, ↓o_gtr, ↓o_geq, ↓o_not, ↓o_pick, ↓o_eqInt, ↓o_neInt, ↓o_eqBool, ↓o_neBool, ↓o_eqPtr, ↓o_nePtr, ↓o_eqPtr', ↓o_eqSl, ↓o_neSl, ↓o_eqStr, ↓o_neStr, ↓o_len, ↓o_lenS, ↓o_min, ↓o_max, ↓o_extract, ↓o_convInt, ↓cd_true, ↓cd_false, ↓gate_tt, ↓gate_ff, ↓gate_tf, ↓gate_ft, ↓gate_undef, ↓o_bind, ↓stay_v, ↓pop_cons, ↓fin_nil, Option.isNone_none, Option.isNone_some, Bool.not_true, Bool.not_false, Nat.zero_add, decide_true, decide_false, if_true, if_false, Bool.false_eq_true, ↓reduceIte]
  refine ld_part (b := b) h (ocells x.own) rfl (s_own x) ?_
  refine ld_agg (b := ob) h rfl ?_
  rw [eq23]
  unfold isMine at k
  by_cases ho : x.own = o
  · rw [decide_eq_true ho, Bool.true_and] at k
    simp only [decide_eq_true ho, ↓o_nil, ↓o_field, ↓o_add, ↓o_sub, ↓o_mul, ↓o_lss, ↓o_leq, ↓o_gtr, ↓o_geq, ↓o_not, ↓o_pick, ↓o_eqInt, ↓o_neInt, ↓o_eqBool, ↓o_neBool, ↓o_eqPtr, ↓o_nePtr, ↓o_eqPtr', ↓o_eqSl, ↓o_neSl, ↓o_eqStr, ↓o_neStr, ↓o_len, ↓o_lenS, ↓o_min, ↓o_max, ↓o_extract, ↓o_convInt, ↓cd_true, ↓cd_false, ↓gate_tt, ↓gate_ff, ↓gate_tf, ↓gate_ft, ↓gate_undef, ↓o_bind, ↓stay_v, ↓pop_cons, ↓fin_nil, Option.isNone_none, Option.isNone_some, Bool.not_true, Bool.not_false, Nat.zero_add, decide_true, decide_false, if_true, if_false, Bool.false_eq_true, ↓reduceIte]
    refine ld_in (b := nb) (v := .int .i64 now) h rfl ?_
    try simp only [↓o_nil, ↓o_field, ↓o_add, ↓o_sub, ↓o_mul, ↓o_lss, ↓o_leq, ↓o_gtr, ↓o_geq, ↓o_not, ↓o_pick, ↓o_eqInt, ↓o_neInt, ↓o_eqBool, ↓o_neBool, ↓o_eqPtr, ↓o_nePtr, ↓o_eqPtr', ↓o_eqSl, ↓o_neSl, ↓o_eqStr, ↓o_neStr, ↓o_len, ↓o_lenS, ↓o_min, ↓o_max, ↓o_extract, ↓o_convInt, ↓cd_true, ↓cd_false, ↓gate_tt, ↓gate_ff, ↓gate_tf, ↓gate_ft, ↓gate_undef, ↓o_bind, ↓stay_v, ↓pop_cons, ↓fin_nil, Option.isNone_none, Option.isNone_some, Bool.not_true, Bool.not_false, Nat.zero_add, decide_true, decide_false, if_true, if_false, Bool.false_eq_true, ↓reduceIte]
    refine ld_agg (b := b) (xs := scells x) h rfl ?_
    try simp only [↓o_nil, ↓o_field, ↓o_add, ↓o_sub, ↓o_mul, ↓o_lss, ↓o_leq, ↓o_gtr, ↓o_geq, ↓o_not, ↓o_pick, ↓o_eqInt, ↓o_neInt, ↓o_eqBool, ↓o_neBool, ↓o_eqPtr, ↓o_nePtr, ↓o_eqPtr', ↓o_eqSl, ↓o_neSl, ↓o_eqStr, ↓o_neStr, ↓o_len, ↓o_lenS, ↓o_min, ↓o_max, ↓o_extract, ↓o_convInt, ↓cd_true, ↓cd_false, ↓gate_tt, ↓gate_ff, ↓gate_tf, ↓gate_ft, ↓gate_undef, ↓o_bind, ↓stay_v, ↓pop_cons, ↓fin_nil, Option.isNone_none, Option.isNone_some, Bool.not_true, Bool.not_false, Nat.zero_add, decide_true, decide_false, if_true, if_false, Bool.false_eq_true, ↓reduceIte]
    refine Until_spec h hx fun w h => ?_
    refine st_in (b := nb) (v := .int .i64 now) h rfl ?_
    refine st_agg (b := ob) h rfl ?_
    refine st_part (b := b) h (ocells x.own) rfl (s_own x) ?_
    try simp only [↓o_nil, ↓o_field, ↓o_add, ↓o_sub, ↓o_mul, ↓o_lss, ↓o_leq, ↓o_gtr, ↓o_geq, ↓o_not, ↓o_pick, ↓o_eqInt, ↓o_neInt, ↓o_eqBool, ↓o_neBool, ↓o_eqPtr, ↓o_nePtr, ↓o_eqPtr', ↓o_eqSl, ↓o_neSl, ↓o_eqStr, ↓o_neStr, ↓o_len, ↓o_lenS, ↓o_min, ↓o_max, ↓o_extract, ↓o_convInt, ↓cd_true, ↓cd_false, ↓gate_tt, ↓gate_ff, ↓gate_tf, ↓gate_ft, ↓gate_undef, ↓o_bind, ↓stay_v, ↓pop_cons, ↓fin_nil, Option.isNone_none, Option.isNone_some, Bool.not_true, Bool.not_false, Nat.zero_add, decide_true, decide_false, if_true, if_false, Bool.false_eq_true, ↓reduceIte]
    exact k _ h.drop
  · rw [decide_eq_false ho, Bool.false_and] at k
    simp only [decide_eq_false ho, ↓o_nil, ↓o_field, ↓o_add, ↓o_sub, ↓o_mul, ↓o_lss, ↓o_leq, ↓o_gtr, ↓o_geq, ↓o_not, ↓o_pick, ↓o_eqInt, ↓o_neInt, ↓o_eqBool, ↓o_neBool, ↓o_eqPtr, ↓o_nePtr, ↓o_eqPtr', ↓o_eqSl, ↓o_neSl, ↓o_eqStr, ↓o_neStr, ↓o_len, ↓o_lenS, ↓o_min, ↓o_max, ↓o_extract, ↓o_convInt, ↓cd_true, ↓cd_false, ↓gate_tt, ↓gate_ff, ↓gate_tf, ↓gate_ft, ↓gate_undef, ↓o_bind, ↓stay_v, ↓pop_cons, ↓fin_nil, Option.isNone_none, Option.isNone_some, Bool.not_true, Bool.not_false, Nat.zero_add, decide_true, decide_false, if_true, if_false, Bool.false_eq_true, ↓reduceIte]
    exact k _ h.drop
theorem SweepF_spec {nb : Nat} {now : Int} {x : Ses} (hx : okT x) (h : sat E w H) [Has H nb (.cells [Value.int .i64 now].toArray 3 (0, 0))]
    (k : ∀ w', sat E w' H → K (.bool (decide (untilS x ≤ now))) w') : ef prog (oCall (.func (.func 49) #[] #[.pointer (some ⟨nb, 0, none⟩)]) #[sv x]) w K := by
  refine oCall_body Tryd.func49 (by kernel_rfl) (by kernel_rfl) ?_
  show Calls prog 49 #[sv x, .pointer (some ⟨nb, 0, none⟩)] w (Ret K)
  refine c49 ?_
  unfold B49
  refine box_sl h fun b w h => ?_
  have h : sat E w (pts b (.cells (scells x).toArray 59 (0, 0)) * H) := h
  refine dr_sl h fun w h _ => ?_
  try simp only [↓o_nil, ↓o_field, ↓o_add, ↓o_sub, ↓o_mul, ↓o_lss, ↓o_leq, ↓o_gtr, ↓o_geq, ↓o_not, ↓o_pick, ↓o_eqInt, ↓o_neInt, ↓o_eqBool, ↓o_neBool, ↓o_eqPtr, ↓o_nePtr, ↓o_eqPtr', ↓o_eqSl, ↓o_neSl, ↓o_eqStr, ↓o_neStr, ↓o_len, ↓o_lenS, ↓o_min, ↓o_max, ↓o_extract, ↓o_convInt, ↓cd_true, ↓cd_false, ↓gate_tt, ↓gate_ff, ↓gate_tf, ↓gate_ft, ↓gate_undef, ↓o_bind, ↓stay_v, ↓pop_cons, ↓fin_nil, Option.isNone_none, Option.isNone_some, Bool.not_true, Bool.not_false, Nat.zero_add, decide_true, decide_false, if_true, if_false, Bool.false_eq_true, ↓reduceIte]
  refine ld_in (b := nb) (v := .int .i64 now) h rfl ?_
  try simp only [↓o_nil, ↓o_field, ↓o_add, ↓o_sub, ↓o_mul, ↓o_lss, ↓o_leq, ↓o_gtr, ↓o_geq, ↓o_not, ↓o_pick, ↓o_eqInt, ↓o_neInt, ↓o_eqBool, ↓o_neBool, ↓o_eqPtr, ↓o_nePtr, ↓o_eqPtr', ↓o_eqSl, ↓o_neSl, ↓o_eqStr, ↓o_neStr, ↓o_len, ↓o_lenS, ↓o_min, ↓o_max, ↓o_extract, ↓o_convInt, ↓cd_true, ↓cd_false, ↓gate_tt, ↓gate_ff, ↓gate_tf, ↓gate_ft, ↓gate_undef, ↓o_bind, ↓stay_v, ↓pop_cons, ↓fin_nil, Option.isNone_none, Option.isNone_some, Bool.not_true, Bool.not_false, Nat.zero_add, decide_true, decide_false, if_true, if_false, Bool.false_eq_true, ↓reduceIte]
  refine ld_agg (b := b) (xs := scells x) h rfl ?_
  refine Until_spec h hx fun w h => ?_
  refine st_in (b := nb) (v := .int .i64 now) h rfl ?_
  rw [o_geq]
  exact k _ h.drop
def liveL (t : Tb) (o : Own2) (now : Int) : List Ses := t.l.filter (isMine o now)
theorem Live_spec {p b m : Nat} {t : Tb} {o : Own2} {now : Int} (ok : OkT t m) (hm : m ≤ 1000000) (h : sat E w (tI p t b R))
    (k0 : timeE t now ≠ 0 → ∀ w', sat E w' (tI p t b R) → K (.tuple #[.slice none 0 0, .int .i64 (timeE t now)]) w')
    (k1 : timeE t now = 0 → ∀ u w', sat E w' (osl 59 5 u (liveL t o now).length (svs (liveL t o now)) * tI p t b R) → K (.tuple #[u, .int .i64 0]) w') :
    Calls prog 20 #[.pointer (some ⟨p, 0, none⟩), .agg (ocells o).toArray, .int .i64 now] w (Ret K) := by
  refine c20 ?_
  unfold B20
  refine box_sl h fun ob w h => ?_
  have h : sat E w (boxO ob o * tI p t b R) := h
  refine box_sl h fun nb w h => ?_
  have h : sat E w (boxN nb now * (boxO ob o * tI p t b R)) := h
  refine ld_in (b := nb) (v := .int .i64 now) h rfl ?_
  rw [← star_assoc] at h
  refine time_spec (tI_in h) fun w h => ?_
  rw [o_neInt]
  by_cases he : timeE t now = 0
  · have t0 : (!decide (timeE t now = 0)) = false := by simp [he]
    rw [t0, cd_false]
    refine pvv_of (v := .func (.func 54) #[] #[.pointer (some ⟨ob, 0, none⟩), .pointer (some ⟨nb, 0, none⟩)]) (fun _ => rfl) ?_
    refine all_spec (pr := isMine o now) ok hm h (fun x X w K' hx h k' => ?_) fun u w h => ?_
    · exact LiveF_spec (ob := ob) (nb := nb) (ok.all x hx).okT h k'
    · refine k1 he u w ?_
      have h := h.perm (show _ = boxN nb now * (boxO ob o * (osl 59 5 u (t.l.filter (isMine o now)).length (svs (t.l.filter (isMine o now))) * tI p t b R)) by unfold tI; ac_rfl)
      exact h.drop.drop
  · have t0 : (!decide (timeE t now = 0)) = true := by simp [he]
    rw [t0, cd_true]
    exact k0 he w (tI_out h).drop
def beginT (t : Tb) (o : Own2) (now : Int) : Tb × Ses × Int :=
  if (isName o.tn && isName o.us) = false then (t, zeroS, 8)
  else if timeE t now ≠ 0 then (t, zeroS, timeE t now)
  else if 1099511627776 < t.next then (t, zeroS, 7)
  else if 3 ≤ (liveL t o now).length then (t, zeroS, 22)
  else (⟨t.next + 1, now, t.l ++ [⟨t.next, o.tn, o.us, now, now⟩]⟩, ⟨t.next, o.tn, o.us, now, now⟩, 0)
theorem time_ok {t : Tb} {now : Int} (h : timeE t now = 0) : 0 ≤ now ∧ now ≤ 1099511627776 ∧ t.noted ≤ now := by
  unfold timeE at h
  split at h
  · cases h
  · split at h
    · cases h
    · omega
theorem Begin_spec {p b m : Nat} {t : Tb} {o : Own2} {now : Int} (ok : OkT t m) (hm : m ≤ 1000000) (ho : o.tn.length ≤ 9223372036854775807 ∧ o.us.length ≤ 9223372036854775807) (h : sat E w (tI p t b R))
    (k : ∀ w', sat E w' (tI p (beginT t o now).1 b R) → K (.tuple #[sv (beginT t o now).2.1, .int .i64 (beginT t o now).2.2]) w') :
    Calls prog 19 #[.pointer (some ⟨p, 0, none⟩), .agg (ocells o).toArray, .int .i64 now] w (Ret K) := by
  have := ok.n1; have := ok.n2; have := ok.few
  refine c19 ?_
  unfold B19
  refine box_sl h fun ob w h => ?_
  have h : sat E w (boxO ob o * tI p t b R) := h
  refine ses_new h fun r w h => ?_
  simp only [↓o_nil, ↓o_field, ↓o_add, ↓o_sub, ↓o_mul, ↓o_lss, ↓o_leq, ↓o_gtr, ↓o_geq, ↓o_not, ↓o_pick, ↓o_eqInt, ↓o_neInt, ↓o_eqBool, ↓o_neBool, ↓o_eqPtr, ↓o_nePtr, ↓o_eqPtr', ↓o_eqSl, ↓o_neSl, ↓o_eqStr, ↓o_neStr, ↓o_len, ↓o_lenS, ↓o_min, ↓o_max, ↓o_extract, ↓o_convInt, ↓cd_true, ↓cd_false, ↓gate_tt, ↓gate_ff, ↓gate_tf, ↓gate_ft, ↓gate_undef, ↓o_bind, ↓stay_v, ↓pop_cons, ↓fin_nil, Option.isNone_none, Option.isNone_some, Bool.not_true, Bool.not_false, Nat.zero_add, decide_true, decide_false, if_true, if_false, Bool.false_eq_true, ↓reduceIte]
  refine ld_in (b := ob) (v := tv o.tn) h rfl ?_
  refine IsName_spec h ho.1 fun w h => ?_
  have out : ∀ w, sat E w (pts r (.cells (scells zeroS).toArray 59 (0, 0)) * (boxO ob o * tI p t b R)) → ∀ e : Int, (beginT t o now) = (t, zeroS, e) →
      pvv prog (Instr.build 59 #[]) w fun t_3 w => efu prog (Instr.storeAt 59 (.pointer (some ⟨r, 0, none⟩)) t_3) w fun u_4 w =>
      ∃ r_5, (do loadVar 59 (← asAddr (.pointer (some ⟨r, 0, none⟩)))).run prog w = .ok r_5 w ∧ K (.tuple #[r_5, (.int .i64 e)]) w := by
    intro w h e he
    refine zeroS_build ?_
    refine ses_ret (b := r) (x := zeroS) h fun w h => ?_
    have := k w (by rw [he]; exact h.drop.drop)
    rw [he] at this
    exact this
  by_cases n1 : isName o.tn = true
  · by_cases n2 : isName o.us = true
    · simp only [n1, ↓o_nil, ↓o_field, ↓o_add, ↓o_sub, ↓o_mul, ↓o_lss, ↓o_leq, ↓o_gtr, ↓o_geq, ↓o_not, ↓o_pick, ↓o_eqInt, ↓o_neInt, ↓o_eqBool, ↓o_neBool, ↓o_eqPtr, ↓o_nePtr, ↓o_eqPtr', ↓o_eqSl, ↓o_neSl, ↓o_eqStr, ↓o_neStr, ↓o_len, ↓o_lenS, ↓o_min, ↓o_max, ↓o_extract, ↓o_convInt, ↓cd_true, ↓cd_false, ↓gate_tt, ↓gate_ff, ↓gate_tf, ↓gate_ft, ↓gate_undef, ↓o_bind, ↓stay_v, ↓pop_cons, ↓fin_nil, Option.isNone_none, Option.isNone_some, Bool.not_true, Bool.not_false, Nat.zero_add, decide_true, decide_false, if_true, if_false, Bool.false_eq_true, ↓reduceIte]
      refine ld_in (b := ob) (v := tv o.us) h rfl ?_
      try simp only [↓o_nil, ↓o_field, ↓o_add, ↓o_sub, ↓o_mul, ↓o_lss, ↓o_leq, ↓o_gtr, ↓o_geq, ↓o_not, ↓o_pick, ↓o_eqInt, ↓o_neInt, ↓o_eqBool, ↓o_neBool, ↓o_eqPtr, ↓o_nePtr, ↓o_eqPtr', ↓o_eqSl, ↓o_neSl, ↓o_eqStr, ↓o_neStr, ↓o_len, ↓o_lenS, ↓o_min, ↓o_max, ↓o_extract, ↓o_convInt, ↓cd_true, ↓cd_false, ↓gate_tt, ↓gate_ff, ↓gate_tf, ↓gate_ft, ↓gate_undef, ↓o_bind, ↓stay_v, ↓pop_cons, ↓fin_nil, Option.isNone_none, Option.isNone_some, Bool.not_true, Bool.not_false, Nat.zero_add, decide_true, decide_false, if_true, if_false, Bool.false_eq_true, ↓reduceIte]
      refine IsName_spec h ho.2 fun w h => ?_
      simp only [n2, ↓o_nil, ↓o_field, ↓o_add, ↓o_sub, ↓o_mul, ↓o_lss, ↓o_leq, ↓o_gtr, ↓o_geq, ↓o_not, ↓o_pick, ↓o_eqInt, ↓o_neInt, ↓o_eqBool, ↓o_neBool, ↓o_eqPtr, ↓o_nePtr, ↓o_eqPtr', ↓o_eqSl, ↓o_neSl, ↓o_eqStr, ↓o_neStr, ↓o_len, ↓o_lenS, ↓o_min, ↓o_max, ↓o_extract, ↓o_convInt, ↓cd_true, ↓cd_false, ↓gate_tt, ↓gate_ff, ↓gate_tf, ↓gate_ft, ↓gate_undef, ↓o_bind, ↓stay_v, ↓pop_cons, ↓fin_nil, Option.isNone_none, Option.isNone_some, Bool.not_true, Bool.not_false, Nat.zero_add, decide_true, decide_false, if_true, if_false, Bool.false_eq_true, ↓reduceIte]
      refine ld_agg (b := ob) h rfl ?_
      have hn : ¬ (isName o.tn && isName o.us) = false := by simp [n1, n2]
      have h : sat E w (tI p t b ((pts r (.cells (scells zeroS).toArray 59 (0, 0)) * boxO ob o) * R)) := by
        refine tI_in ?_
        exact h.perm (by ac_rfl)
      refine Live_spec ok hm h (fun he w h => ?_) (fun he u w h => ?_)
      · rw [o_extract, o_extract, o_neInt]
        have t0 : (!decide (timeE t now = 0)) = true := by simp [he]
        rw [t0, cd_true]
        refine out w ((tI_out h).perm (by ac_rfl)) _ ?_
        unfold beginT
        rw [if_neg hn, if_pos he]
      · rw [o_extract, o_extract, o_neInt, show (!decide ((0 : Int) = 0)) = false from rfl, cd_false]
        obtain ⟨ua, uc, rfl, huc, _, _⟩ := osl_shape h
        simp only [↓o_nil, ↓o_field, ↓o_add, ↓o_sub, ↓o_mul, ↓o_lss, ↓o_leq, ↓o_gtr, ↓o_geq, ↓o_not, ↓o_pick, ↓o_eqInt, ↓o_neInt, ↓o_eqBool, ↓o_neBool, ↓o_eqPtr, ↓o_nePtr, ↓o_eqPtr', ↓o_eqSl, ↓o_neSl, ↓o_eqStr, ↓o_neStr, ↓o_len, ↓o_lenS, ↓o_min, ↓o_max, ↓o_extract, ↓o_convInt, ↓cd_true, ↓cd_false, ↓gate_tt, ↓gate_ff, ↓gate_tf, ↓gate_ft, ↓gate_undef, ↓o_bind, ↓stay_v, ↓pop_cons, ↓fin_nil, Option.isNone_none, Option.isNone_some, Bool.not_true, Bool.not_false, Nat.zero_add, decide_true, decide_false, if_true, if_false, Bool.false_eq_true, ↓reduceIte]
        refine ld_in (b := p) (v := .int .i64 t.next) h rfl ?_
        have h' := h.drop
        rw [o_gtr]
        by_cases hf : 1099511627776 < t.next
        · rw [decide_eq_true hf, cd_true]
          refine out w ((tI_out h').perm (by ac_rfl)) _ ?_
          unfold beginT
          rw [if_neg hn, if_neg (by simpa using he), if_pos hf]
        · rw [decide_eq_false hf, cd_false]
          try simp only [↓o_nil, ↓o_field, ↓o_add, ↓o_sub, ↓o_mul, ↓o_lss, ↓o_leq, ↓o_gtr, ↓o_geq, ↓o_not, ↓o_pick, ↓o_eqInt, ↓o_neInt, ↓o_eqBool, ↓o_neBool, ↓o_eqPtr, ↓o_nePtr, ↓o_eqPtr', ↓o_eqSl, ↓o_neSl, ↓o_eqStr, ↓o_neStr, ↓o_len, ↓o_lenS, ↓o_min, ↓o_max, ↓o_extract, ↓o_convInt, ↓cd_true, ↓cd_false, ↓gate_tt, ↓gate_ff, ↓gate_tf, ↓gate_ft, ↓gate_undef, ↓o_bind, ↓stay_v, ↓pop_cons, ↓fin_nil, Option.isNone_none, Option.isNone_some, Bool.not_true, Bool.not_false, Nat.zero_add, decide_true, decide_false, if_true, if_false, Bool.false_eq_true, ↓reduceIte]
          by_cases h3 : (3 : Int) ≤ (liveL t o now).length
          · rw [decide_eq_true h3, cd_true]
            refine out w ((tI_out h').perm (by ac_rfl)) _ ?_
            unfold beginT
            rw [if_neg hn, if_neg (by simpa using he), if_neg hf, if_pos (by omega)]
          · rw [decide_eq_false h3, cd_false]
            have e : beginT t o now = (⟨t.next + 1, now, t.l ++ [⟨t.next, o.tn, o.us, now, now⟩]⟩, ⟨t.next, o.tn, o.us, now, now⟩, 0) := by
              unfold beginT
              rw [if_neg hn, if_neg (by simpa using he), if_neg hf, if_neg (by omega)]
            rw [e] at k
            have h := (tI_out h').perm (show _ = pts r (.cells (scells zeroS).toArray 59 (0, 0)) * (boxO ob o * tI p t b R) by ac_rfl)
            generalize hx : (⟨t.next, o.tn, o.us, now, now⟩ : Ses) = x at k
            refine dr_sl h fun w h _ => ?_
            try simp only [↓o_nil, ↓o_field, ↓o_add, ↓o_sub, ↓o_mul, ↓o_lss, ↓o_leq, ↓o_gtr, ↓o_geq, ↓o_not, ↓o_pick, ↓o_eqInt, ↓o_neInt, ↓o_eqBool, ↓o_neBool, ↓o_eqPtr, ↓o_nePtr, ↓o_eqPtr', ↓o_eqSl, ↓o_neSl, ↓o_eqStr, ↓o_neStr, ↓o_len, ↓o_lenS, ↓o_min, ↓o_max, ↓o_extract, ↓o_convInt, ↓cd_true, ↓cd_false, ↓gate_tt, ↓gate_ff, ↓gate_tf, ↓gate_ft, ↓gate_undef, ↓o_bind, ↓stay_v, ↓pop_cons, ↓fin_nil, Option.isNone_none, Option.isNone_some, Bool.not_true, Bool.not_false, Nat.zero_add, decide_true, decide_false, if_true, if_false, Bool.false_eq_true, ↓reduceIte]
            refine ld_in (b := p) (v := .int .i64 t.next) h rfl ?_
            refine ld_agg (b := ob) h rfl ?_
            refine pvv_of (v := sv x) (fun w => by rw [← hx]; kernel_rfl) ?_
            refine alloc_sl h fun sb w h => ?_
            have h : sat E w (pts sb (.cells (scells zeroS).toArray 59 (0, 0)) * (pts r (.cells (scells zeroS).toArray 59 (0, 0)) * (boxO ob o * tI p t b R))) := h
            refine st_agg (b := ob) h rfl ?_
            refine st_in (b := p) (v := .int .i64 t.next) h rfl ?_
            refine store_all (b := sb) h (xs := scells zeroS) (vs := scells x) rfl rfl (scells_one x) fun w h => ?_
            refine dr_sl h fun w h _ => ?_
            try simp only [↓o_nil, ↓o_field, ↓o_add, ↓o_sub, ↓o_mul, ↓o_lss, ↓o_leq, ↓o_gtr, ↓o_geq, ↓o_not, ↓o_pick, ↓o_eqInt, ↓o_neInt, ↓o_eqBool, ↓o_neBool, ↓o_eqPtr, ↓o_nePtr, ↓o_eqPtr', ↓o_eqSl, ↓o_neSl, ↓o_eqStr, ↓o_neStr, ↓o_len, ↓o_lenS, ↓o_min, ↓o_max, ↓o_extract, ↓o_convInt, ↓cd_true, ↓cd_false, ↓gate_tt, ↓gate_ff, ↓gate_tf, ↓gate_ft, ↓gate_undef, ↓o_bind, ↓stay_v, ↓pop_cons, ↓fin_nil, Option.isNone_none, Option.isNone_some, Bool.not_true, Bool.not_false, Nat.zero_add, decide_true, decide_false, if_true, if_false, Bool.false_eq_true, ↓reduceIte]
            refine ld_in (b := p) (v := .map (some b)) h rfl ?_
            refine ld_in (b := sb) (v := .int .i64 x.id) h rfl ?_
            refine ld_agg (b := sb) (xs := scells x) h rfl ?_
            refine update_sl (b := b) (v := sv x) h fun w h => ?_
            have hnew : ∀ y ∈ t.l, y.id < x.id := fun y hy => by rw [← hx]; exact (ok.all y hy).id2
            rw [putM_new hnew] at h
            try simp only [↓o_nil, ↓o_field, ↓o_add, ↓o_sub, ↓o_mul, ↓o_lss, ↓o_leq, ↓o_gtr, ↓o_geq, ↓o_not, ↓o_pick, ↓o_eqInt, ↓o_neInt, ↓o_eqBool, ↓o_neBool, ↓o_eqPtr, ↓o_nePtr, ↓o_eqPtr', ↓o_eqSl, ↓o_neSl, ↓o_eqStr, ↓o_neStr, ↓o_len, ↓o_lenS, ↓o_min, ↓o_max, ↓o_extract, ↓o_convInt, ↓cd_true, ↓cd_false, ↓gate_tt, ↓gate_ff, ↓gate_tf, ↓gate_ft, ↓gate_undef, ↓o_bind, ↓stay_v, ↓pop_cons, ↓fin_nil, Option.isNone_none, Option.isNone_some, Bool.not_true, Bool.not_false, Nat.zero_add, decide_true, decide_false, if_true, if_false, Bool.false_eq_true, ↓reduceIte]
            refine ld_in (b := p) (v := .int .i64 t.next) h rfl ?_
            try simp only [↓o_nil, ↓o_field, ↓o_add, ↓o_sub, ↓o_mul, ↓o_lss, ↓o_leq, ↓o_gtr, ↓o_geq, ↓o_not, ↓o_pick, ↓o_eqInt, ↓o_neInt, ↓o_eqBool, ↓o_neBool, ↓o_eqPtr, ↓o_nePtr, ↓o_eqPtr', ↓o_eqSl, ↓o_neSl, ↓o_eqStr, ↓o_neStr, ↓o_len, ↓o_lenS, ↓o_min, ↓o_max, ↓o_extract, ↓o_convInt, ↓cd_true, ↓cd_false, ↓gate_tt, ↓gate_ff, ↓gate_tf, ↓gate_ft, ↓gate_undef, ↓o_bind, ↓stay_v, ↓pop_cons, ↓fin_nil, Option.isNone_none, Option.isNone_some, Bool.not_true, Bool.not_false, Nat.zero_add, decide_true, decide_false, if_true, if_false, Bool.false_eq_true, ↓reduceIte]
            rw [i64_of (by omega) (by omega)]
            refine store_sl (b := p) h rfl (by simp [tcells]) fun w h => ?_
            refine store_sl (b := p) h rfl (by simp [tcells]) fun w h => ?_
            refine ld_agg (b := sb) (xs := scells x) h rfl ?_
            refine ses_ret (b := r) (x := zeroS) h fun w h => ?_
            refine k w ?_
            have h := h.perm (show _ = pts r (.cells (scells x).toArray 59 (0, 0)) * (pts sb (.cells (scells x).toArray 59 (0, 0)) * (boxO ob o * (pts p (.cells (tcells ⟨t.next + 1, now, t.l ++ [x]⟩ b).toArray 96 (0, 0)) * (omap b (mp (t.l ++ [x])) * R)))) by
              simp only [tcells, List.set_cons_zero, List.set_cons_succ]
              ac_rfl)
            exact h.drop.drop.drop
    · have n2 : isName o.us = false := by simpa using n2
      simp only [n1, ↓o_nil, ↓o_field, ↓o_add, ↓o_sub, ↓o_mul, ↓o_lss, ↓o_leq, ↓o_gtr, ↓o_geq, ↓o_not, ↓o_pick, ↓o_eqInt, ↓o_neInt, ↓o_eqBool, ↓o_neBool, ↓o_eqPtr, ↓o_nePtr, ↓o_eqPtr', ↓o_eqSl, ↓o_neSl, ↓o_eqStr, ↓o_neStr, ↓o_len, ↓o_lenS, ↓o_min, ↓o_max, ↓o_extract, ↓o_convInt, ↓cd_true, ↓cd_false, ↓gate_tt, ↓gate_ff, ↓gate_tf, ↓gate_ft, ↓gate_undef, ↓o_bind, ↓stay_v, ↓pop_cons, ↓fin_nil, Option.isNone_none, Option.isNone_some, Bool.not_true, Bool.not_false, Nat.zero_add, decide_true, decide_false, if_true, if_false, Bool.false_eq_true, ↓reduceIte]
      refine ld_in (b := ob) (v := tv o.us) h rfl ?_
      try simp only [↓o_nil, ↓o_field, ↓o_add, ↓o_sub, ↓o_mul, ↓o_lss, ↓o_leq, ↓o_gtr, ↓o_geq, ↓o_not, ↓o_pick, ↓o_eqInt, ↓o_neInt, ↓o_eqBool, ↓o_neBool, ↓o_eqPtr, ↓o_nePtr, ↓o_eqPtr', ↓o_eqSl, ↓o_neSl, ↓o_eqStr, ↓o_neStr, ↓o_len, ↓o_lenS, ↓o_min, ↓o_max, ↓o_extract, ↓o_convInt, ↓cd_true, ↓cd_false, ↓gate_tt, ↓gate_ff, ↓gate_tf, ↓gate_ft, ↓gate_undef, ↓o_bind, ↓stay_v, ↓pop_cons, ↓fin_nil, Option.isNone_none, Option.isNone_some, Bool.not_true, Bool.not_false, Nat.zero_add, decide_true, decide_false, if_true, if_false, Bool.false_eq_true, ↓reduceIte]
      refine IsName_spec h ho.2 fun w h => ?_
      simp only [n2, ↓o_nil, ↓o_field, ↓o_add, ↓o_sub, ↓o_mul, ↓o_lss, ↓o_leq, ↓o_gtr, ↓o_geq, ↓o_not, ↓o_pick, ↓o_eqInt, ↓o_neInt, ↓o_eqBool, ↓o_neBool, ↓o_eqPtr, ↓o_nePtr, ↓o_eqPtr', ↓o_eqSl, ↓o_neSl, ↓o_eqStr, ↓o_neStr, ↓o_len, ↓o_lenS, ↓o_min, ↓o_max, ↓o_extract, ↓o_convInt, ↓cd_true, ↓cd_false, ↓gate_tt, ↓gate_ff, ↓gate_tf, ↓gate_ft, ↓gate_undef, ↓o_bind, ↓stay_v, ↓pop_cons, ↓fin_nil, Option.isNone_none, Option.isNone_some, Bool.not_true, Bool.not_false, Nat.zero_add, decide_true, decide_false, if_true, if_false, Bool.false_eq_true, ↓reduceIte]
      have := out w h 8 (by unfold beginT; rw [if_pos (by simp [n1, n2])])
      try simp only [↓o_nil, ↓o_field, ↓o_add, ↓o_sub, ↓o_mul, ↓o_lss, ↓o_leq, ↓o_gtr, ↓o_geq, ↓o_not, ↓o_pick, ↓o_eqInt, ↓o_neInt, ↓o_eqBool, ↓o_neBool, ↓o_eqPtr, ↓o_nePtr, ↓o_eqPtr', ↓o_eqSl, ↓o_neSl, ↓o_eqStr, ↓o_neStr, ↓o_len, ↓o_lenS, ↓o_min, ↓o_max, ↓o_extract, ↓o_convInt, ↓cd_true, ↓cd_false, ↓gate_tt, ↓gate_ff, ↓gate_tf, ↓gate_ft, ↓gate_undef, ↓o_bind, ↓stay_v, ↓pop_cons, ↓fin_nil, Option.isNone_none, Option.isNone_some, Bool.not_true, Bool.not_false, Nat.zero_add, decide_true, decide_false, if_true, if_false, Bool.false_eq_true, ↓reduceIte] at this
      exact this
  · have n1 : isName o.tn = false := by simpa using n1
    simp only [n1, ↓o_nil, ↓o_field, ↓o_add, ↓o_sub, ↓o_mul, ↓o_lss, ↓o_leq, ↓o_gtr, ↓o_geq, ↓o_not, ↓o_pick, ↓o_eqInt, ↓o_neInt, ↓o_eqBool, ↓o_neBool, ↓o_eqPtr, ↓o_nePtr, ↓o_eqPtr', ↓o_eqSl, ↓o_neSl, ↓o_eqStr, ↓o_neStr, ↓o_len, ↓o_lenS, ↓o_min, ↓o_max, ↓o_extract, ↓o_convInt, ↓cd_true, ↓cd_false, ↓gate_tt, ↓gate_ff, ↓gate_tf, ↓gate_ft, ↓gate_undef, ↓o_bind, ↓stay_v, ↓pop_cons, ↓fin_nil, Option.isNone_none, Option.isNone_some, Bool.not_true, Bool.not_false, Nat.zero_add, decide_true, decide_false, if_true, if_false, Bool.false_eq_true, ↓reduceIte]
    have := out w h 8 (by unfold beginT; rw [if_pos (by simp [n1])])
    try simp only [↓o_nil, ↓o_field, ↓o_add, ↓o_sub, ↓o_mul, ↓o_lss, ↓o_leq, ↓o_gtr, ↓o_geq, ↓o_not, ↓o_pick, ↓o_eqInt, ↓o_neInt, ↓o_eqBool, ↓o_neBool, ↓o_eqPtr, ↓o_nePtr, ↓o_eqPtr', ↓o_eqSl, ↓o_neSl, ↓o_eqStr, ↓o_neStr, ↓o_len, ↓o_lenS, ↓o_min, ↓o_max, ↓o_extract, ↓o_convInt, ↓cd_true, ↓cd_false, ↓gate_tt, ↓gate_ff, ↓gate_tf, ↓gate_ft, ↓gate_undef, ↓o_bind, ↓stay_v, ↓pop_cons, ↓fin_nil, Option.isNone_none, Option.isNone_some, Bool.not_true, Bool.not_false, Nat.zero_add, decide_true, decide_false, if_true, if_false, Bool.false_eq_true, ↓reduceIte] at this
    exact this
end Go.Proofs.YtbcimkjgpplcpaaDoor

/-
  A table's deeds: found, got, used, ended.
-/
set_option linter.all false
set_option maxRecDepth 100000
namespace Go.Proofs.YtbcimkjgpplcpaaDoor
open Go Hold
variable {E : World0} {w : World} {H R X : HP} {K : Value → World → Prop}
def findT (t : Tb) (id : Int) : Ses × Int :=
  if id < 1 ∨ t.next ≤ id then (zeroS, 4) else match findS t.l id with | some x => (x, 0) | none => (zeroS, 12)
theorem find_spec {p b : Nat} {t : Tb} {id : Int} (h : sat E w (tI p t b R)) (k : ∀ w', sat E w' (tI p t b R) → K (.tuple #[sv (findT t id).1, .int .i64 (findT t id).2]) w') :
    Calls prog 55 #[.pointer (some ⟨p, 0, none⟩), .int .i64 id] w (Ret K) := by
  refine c55 ?_
  unfold B55
  refine ses_new h fun r w h => ?_
  rw [o_lss]
  unfold findT at k
  by_cases h1 : id < 1
  · rw [if_pos (.inl h1)] at k
    simp only [h1, ↓o_nil, ↓o_field, ↓o_add, ↓o_sub, ↓o_mul, ↓o_lss, ↓o_leq, ↓o_gtr, ↓o_geq, ↓o_not, ↓o_pick, ↓o_eqInt, ↓o_neInt, ↓o_eqBool, ↓o_neBool, ↓o_eqPtr, ↓o_nePtr, ↓o_eqPtr', ↓o_eqSl, ↓o_neSl, ↓o_eqStr, ↓o_neStr, ↓o_len, ↓o_lenS, ↓o_min, ↓o_max, ↓o_extract, ↓o_convInt, ↓cd_true, ↓cd_false, ↓gate_tt, ↓gate_ff, ↓gate_tf, ↓gate_ft, ↓gate_undef, ↓o_bind, ↓stay_v, ↓pop_cons, ↓fin_nil, Option.isNone_none, Option.isNone_some, Bool.not_true, Bool.not_false, Nat.zero_add, decide_true, decide_false, if_true, if_false, Bool.false_eq_true, ↓reduceIte]
    refine zeroS_build ?_
    exact ses_ret (b := r) (x := zeroS) h fun w h => k w h.drop
  simp only [h1, ↓o_nil, ↓o_field, ↓o_add, ↓o_sub, ↓o_mul, ↓o_lss, ↓o_leq, ↓o_gtr, ↓o_geq, ↓o_not, ↓o_pick, ↓o_eqInt, ↓o_neInt, ↓o_eqBool, ↓o_neBool, ↓o_eqPtr, ↓o_nePtr, ↓o_eqPtr', ↓o_eqSl, ↓o_neSl, ↓o_eqStr, ↓o_neStr, ↓o_len, ↓o_lenS, ↓o_min, ↓o_max, ↓o_extract, ↓o_convInt, ↓cd_true, ↓cd_false, ↓gate_tt, ↓gate_ff, ↓gate_tf, ↓gate_ft, ↓gate_undef, ↓o_bind, ↓stay_v, ↓pop_cons, ↓fin_nil, Option.isNone_none, Option.isNone_some, Bool.not_true, Bool.not_false, Nat.zero_add, decide_true, decide_false, if_true, if_false, Bool.false_eq_true, ↓reduceIte]
  refine ld_in (b := p) (v := .int .i64 t.next) h rfl ?_
  try simp only [↓o_nil, ↓o_field, ↓o_add, ↓o_sub, ↓o_mul, ↓o_lss, ↓o_leq, ↓o_gtr, ↓o_geq, ↓o_not, ↓o_pick, ↓o_eqInt, ↓o_neInt, ↓o_eqBool, ↓o_neBool, ↓o_eqPtr, ↓o_nePtr, ↓o_eqPtr', ↓o_eqSl, ↓o_neSl, ↓o_eqStr, ↓o_neStr, ↓o_len, ↓o_lenS, ↓o_min, ↓o_max, ↓o_extract, ↓o_convInt, ↓cd_true, ↓cd_false, ↓gate_tt, ↓gate_ff, ↓gate_tf, ↓gate_ft, ↓gate_undef, ↓o_bind, ↓stay_v, ↓pop_cons, ↓fin_nil, Option.isNone_none, Option.isNone_some, Bool.not_true, Bool.not_false, Nat.zero_add, decide_true, decide_false, if_true, if_false, Bool.false_eq_true, ↓reduceIte]
  by_cases h2 : t.next ≤ id
  · rw [if_pos (.inr h2)] at k
    simp only [h2, ↓o_nil, ↓o_field, ↓o_add, ↓o_sub, ↓o_mul, ↓o_lss, ↓o_leq, ↓o_gtr, ↓o_geq, ↓o_not, ↓o_pick, ↓o_eqInt, ↓o_neInt, ↓o_eqBool, ↓o_neBool, ↓o_eqPtr, ↓o_nePtr, ↓o_eqPtr', ↓o_eqSl, ↓o_neSl, ↓o_eqStr, ↓o_neStr, ↓o_len, ↓o_lenS, ↓o_min, ↓o_max, ↓o_extract, ↓o_convInt, ↓cd_true, ↓cd_false, ↓gate_tt, ↓gate_ff, ↓gate_tf, ↓gate_ft, ↓gate_undef, ↓o_bind, ↓stay_v, ↓pop_cons, ↓fin_nil, Option.isNone_none, Option.isNone_some, Bool.not_true, Bool.not_false, Nat.zero_add, decide_true, decide_false, if_true, if_false, Bool.false_eq_true, ↓reduceIte]
    refine zeroS_build ?_
    exact ses_ret (b := r) (x := zeroS) h fun w h => k w h.drop
  rw [if_neg (by omega)] at k
  simp only [h2, ↓o_nil, ↓o_field, ↓o_add, ↓o_sub, ↓o_mul, ↓o_lss, ↓o_leq, ↓o_gtr, ↓o_geq, ↓o_not, ↓o_pick, ↓o_eqInt, ↓o_neInt, ↓o_eqBool, ↓o_neBool, ↓o_eqPtr, ↓o_nePtr, ↓o_eqPtr', ↓o_eqSl, ↓o_neSl, ↓o_eqStr, ↓o_neStr, ↓o_len, ↓o_lenS, ↓o_min, ↓o_max, ↓o_extract, ↓o_convInt, ↓cd_true, ↓cd_false, ↓gate_tt, ↓gate_ff, ↓gate_tf, ↓gate_ft, ↓gate_undef, ↓o_bind, ↓stay_v, ↓pop_cons, ↓fin_nil, Option.isNone_none, Option.isNone_some, Bool.not_true, Bool.not_false, Nat.zero_add, decide_true, decide_false, if_true, if_false, Bool.false_eq_true, ↓reduceIte]
  refine ld_in (b := p) (v := .map (some b)) h rfl ?_
  refine look_ld (b := b) h ?_
  rw [findM_mp]
  cases hf : findS t.l id with
  | none =>
    rw [hf] at k
    simp only [Option.map_none]
    rw [o_extract, o_extract]
    refine ses_in (x := zeroS) h fun sb w h => ?_
    rw [o_not, Bool.not_false, cd_true]
    refine zeroS_build ?_
    exact ses_ret (b := r) (x := zeroS) h fun w h => k w h.drop.drop
  | some x =>
    rw [hf] at k
    simp only [Option.map_some]
    rw [o_extract, o_extract]
    refine ses_in (x := x) h fun sb w h => ?_
    rw [o_not, Bool.not_true, cd_false]
    refine ld_agg (b := sb) (xs := scells x) h rfl ?_
    exact ses_ret (b := r) (x := zeroS) (y := x) h fun w h => k w h.drop.drop
def getT (t : Tb) (id now : Int) : Ses × Int :=
  if timeE t now ≠ 0 then (zeroS, timeE t now)
  else if (findT t id).2 = 0 ∧ untilS (findT t id).1 ≤ now then (zeroS, 12) else findT t id
theorem findT_ok {t : Tb} {m : Nat} {id : Int} (ok : OkT t m) (h : (findT t id).2 = 0) : (findT t id).1 ∈ t.l ∧ (findT t id).1.id = id ∧ findS t.l id = some (findT t id).1 := by
  unfold findT at h ⊢
  split at h
  · cases h
  · rename_i h1
    rw [if_neg h1]
    split at h
    · rename_i x hx
      obtain ⟨a, b⟩ := findS_some hx
      refine ⟨?_, ?_, ?_⟩ <;> simp only [hx] <;> first | exact a | exact b | rfl | trivial
    · cases h
theorem Get_spec {p b m : Nat} {t : Tb} {id now : Int} (ok : OkT t m) (h : sat E w (tI p t b R)) (k : ∀ w', sat E w' (tI p t b R) → K (.tuple #[sv (getT t id now).1, .int .i64 (getT t id now).2]) w') :
    Calls prog 22 #[.pointer (some ⟨p, 0, none⟩), .int .i64 id, .int .i64 now] w (Ret K) := by
  refine c22 ?_
  unfold B22
  refine ses_new h fun r w h => ?_
  refine time_spec (tI_in h) fun w h => ?_
  rw [o_neInt]
  unfold getT at k
  by_cases he : timeE t now = 0
  · rw [if_neg (by simpa using he)] at k
    rw [show (!decide (timeE t now = 0)) = false by simp [he], cd_false]
    refine find_spec (id := id) h fun w h => ?_
    rw [o_extract, o_extract]
    refine ses_in h fun sb w h => ?_
    have h : sat E w (pts sb (.cells (scells (findT t id).1).toArray 59 (0, 0)) * (pts r (.cells (scells zeroS).toArray 59 (0, 0)) * tI p t b R)) := by
      refine h.perm ?_
      unfold tI
      ac_rfl
    rw [o_eqInt]
    have fin : ∀ w, sat E w (pts sb (.cells (scells (findT t id).1).toArray 59 (0, 0)) * (pts r (.cells (scells zeroS).toArray 59 (0, 0)) * tI p t b R)) → ¬ ((findT t id).2 = 0 ∧ untilS (findT t id).1 ≤ now) →
        ldv prog (Instr.loadAt 59 (.pointer (some ⟨sb, 0, none⟩))) w fun t_20 w =>
        efu prog (Instr.storeAt 59 (.pointer (some ⟨r, 0, none⟩)) t_20) w fun u_21 w =>
        ∃ r_22, (do loadVar 59 (← asAddr (.pointer (some ⟨r, 0, none⟩)))).run prog w = .ok r_22 w ∧ K (.tuple #[r_22, .int .i64 (findT t id).2]) w := by
      intro w h hn
      rw [if_neg hn] at k
      refine ld_agg (b := sb) (xs := scells (findT t id).1) h rfl ?_
      exact ses_ret (b := r) (x := zeroS) (y := (findT t id).1) h fun w h => k w h.drop.drop
    by_cases h0 : (findT t id).2 = 0
    · simp only [decide_eq_true h0, ↓o_nil, ↓o_field, ↓o_add, ↓o_sub, ↓o_mul, ↓o_lss, ↓o_leq, ↓o_gtr, ↓o_geq, ↓o_not, ↓o_pick, ↓o_eqInt, ↓o_neInt, ↓o_eqBool, ↓o_neBool, ↓o_eqPtr, ↓o_nePtr, ↓o_eqPtr', ↓o_eqSl, ↓o_neSl, ↓o_eqStr, ↓o_neStr, ↓o_len, ↓o_lenS, ↓o_min, ↓o_max, ↓o_extract, ↓o_convInt, ↓cd_true, ↓cd_false, ↓gate_tt, ↓gate_ff, ↓gate_tf, ↓gate_ft, ↓gate_undef, ↓o_bind, ↓stay_v, ↓pop_cons, ↓fin_nil, Option.isNone_none, Option.isNone_some, Bool.not_true, Bool.not_false, Nat.zero_add, decide_true, decide_false, if_true, if_false, Bool.false_eq_true, ↓reduceIte]
      refine ld_agg (b := sb) (xs := scells (findT t id).1) h rfl ?_
      try simp only [↓o_nil, ↓o_field, ↓o_add, ↓o_sub, ↓o_mul, ↓o_lss, ↓o_leq, ↓o_gtr, ↓o_geq, ↓o_not, ↓o_pick, ↓o_eqInt, ↓o_neInt, ↓o_eqBool, ↓o_neBool, ↓o_eqPtr, ↓o_nePtr, ↓o_eqPtr', ↓o_eqSl, ↓o_neSl, ↓o_eqStr, ↓o_neStr, ↓o_len, ↓o_lenS, ↓o_min, ↓o_max, ↓o_extract, ↓o_convInt, ↓cd_true, ↓cd_false, ↓gate_tt, ↓gate_ff, ↓gate_tf, ↓gate_ft, ↓gate_undef, ↓o_bind, ↓stay_v, ↓pop_cons, ↓fin_nil, Option.isNone_none, Option.isNone_some, Bool.not_true, Bool.not_false, Nat.zero_add, decide_true, decide_false, if_true, if_false, Bool.false_eq_true, ↓reduceIte]
      refine Until_spec h (ok.all _ (findT_ok ok h0).1).okT fun w h => ?_
      try simp only [↓o_nil, ↓o_field, ↓o_add, ↓o_sub, ↓o_mul, ↓o_lss, ↓o_leq, ↓o_gtr, ↓o_geq, ↓o_not, ↓o_pick, ↓o_eqInt, ↓o_neInt, ↓o_eqBool, ↓o_neBool, ↓o_eqPtr, ↓o_nePtr, ↓o_eqPtr', ↓o_eqSl, ↓o_neSl, ↓o_eqStr, ↓o_neStr, ↓o_len, ↓o_lenS, ↓o_min, ↓o_max, ↓o_extract, ↓o_convInt, ↓cd_true, ↓cd_false, ↓gate_tt, ↓gate_ff, ↓gate_tf, ↓gate_ft, ↓gate_undef, ↓o_bind, ↓stay_v, ↓pop_cons, ↓fin_nil, Option.isNone_none, Option.isNone_some, Bool.not_true, Bool.not_false, Nat.zero_add, decide_true, decide_false, if_true, if_false, Bool.false_eq_true, ↓reduceIte]
      by_cases hu : untilS (findT t id).1 ≤ now
      · rw [if_pos ⟨h0, hu⟩] at k
        simp only [decide_eq_true hu, ↓o_nil, ↓o_field, ↓o_add, ↓o_sub, ↓o_mul, ↓o_lss, ↓o_leq, ↓o_gtr, ↓o_geq, ↓o_not, ↓o_pick, ↓o_eqInt, ↓o_neInt, ↓o_eqBool, ↓o_neBool, ↓o_eqPtr, ↓o_nePtr, ↓o_eqPtr', ↓o_eqSl, ↓o_neSl, ↓o_eqStr, ↓o_neStr, ↓o_len, ↓o_lenS, ↓o_min, ↓o_max, ↓o_extract, ↓o_convInt, ↓cd_true, ↓cd_false, ↓gate_tt, ↓gate_ff, ↓gate_tf, ↓gate_ft, ↓gate_undef, ↓o_bind, ↓stay_v, ↓pop_cons, ↓fin_nil, Option.isNone_none, Option.isNone_some, Bool.not_true, Bool.not_false, Nat.zero_add, decide_true, decide_false, if_true, if_false, Bool.false_eq_true, ↓reduceIte]
        refine zeroS_build ?_
        exact ses_ret (b := r) (x := zeroS) h fun w h => k w h.drop.drop
      · simp only [decide_eq_false hu, ↓o_nil, ↓o_field, ↓o_add, ↓o_sub, ↓o_mul, ↓o_lss, ↓o_leq, ↓o_gtr, ↓o_geq, ↓o_not, ↓o_pick, ↓o_eqInt, ↓o_neInt, ↓o_eqBool, ↓o_neBool, ↓o_eqPtr, ↓o_nePtr, ↓o_eqPtr', ↓o_eqSl, ↓o_neSl, ↓o_eqStr, ↓o_neStr, ↓o_len, ↓o_lenS, ↓o_min, ↓o_max, ↓o_extract, ↓o_convInt, ↓cd_true, ↓cd_false, ↓gate_tt, ↓gate_ff, ↓gate_tf, ↓gate_ft, ↓gate_undef, ↓o_bind, ↓stay_v, ↓pop_cons, ↓fin_nil, Option.isNone_none, Option.isNone_some, Bool.not_true, Bool.not_false, Nat.zero_add, decide_true, decide_false, if_true, if_false, Bool.false_eq_true, ↓reduceIte]
        exact fin w h (fun hx => hu hx.2)
    · simp only [decide_eq_false h0, ↓o_nil, ↓o_field, ↓o_add, ↓o_sub, ↓o_mul, ↓o_lss, ↓o_leq, ↓o_gtr, ↓o_geq, ↓o_not, ↓o_pick, ↓o_eqInt, ↓o_neInt, ↓o_eqBool, ↓o_neBool, ↓o_eqPtr, ↓o_nePtr, ↓o_eqPtr', ↓o_eqSl, ↓o_neSl, ↓o_eqStr, ↓o_neStr, ↓o_len, ↓o_lenS, ↓o_min, ↓o_max, ↓o_extract, ↓o_convInt, ↓cd_true, ↓cd_false, ↓gate_tt, ↓gate_ff, ↓gate_tf, ↓gate_ft, ↓gate_undef, ↓o_bind, ↓stay_v, ↓pop_cons, ↓fin_nil, Option.isNone_none, Option.isNone_some, Bool.not_true, Bool.not_false, Nat.zero_add, decide_true, decide_false, if_true, if_false, Bool.false_eq_true, ↓reduceIte]
      exact fin w h (fun hx => h0 hx.1)
  · rw [if_pos he] at k
    rw [show (!decide (timeE t now = 0)) = true by simp [he], cd_true]
    refine zeroS_build ?_
    refine ses_ret (b := r) (x := zeroS) (tI_out h) fun w h => k w h.drop
def usedS (x : Ses) (now : Int) : Ses := { x with used := now }
def touchT (t : Tb) (id now : Int) : Tb × Ses × Int :=
  if (getT t id now).2 = 0 then (⟨t.next, now, put1 t.l (usedS (getT t id now).1 now)⟩, usedS (getT t id now).1 now, 0) else (t, (getT t id now).1, (getT t id now).2)
theorem getT_ok {t : Tb} {m : Nat} {id now : Int} (ok : OkT t m) (h : (getT t id now).2 = 0) : timeE t now = 0 ∧ (getT t id now).1 ∈ t.l ∧ (getT t id now).1.id = id ∧ now < untilS (getT t id now).1 := by
  unfold getT at h ⊢
  split at h
  · rename_i h1
    exact absurd h h1
  · rename_i h1
    rw [if_neg h1]
    split at h
    · cases h
    · rename_i h2
      rw [if_neg h2]
      obtain ⟨a, b, _⟩ := findT_ok ok h
      exact ⟨by simpa using h1, a, b, by
        rcases Classical.em (untilS (findT t id).1 ≤ now) with h3 | h3
        · exact absurd ⟨h, h3⟩ h2
        · omega⟩
theorem Touch_spec {p b m : Nat} {t : Tb} {id now : Int} (ok : OkT t m) (h : sat E w (tI p t b R)) (k : ∀ w', sat E w' (tI p (touchT t id now).1 b R) → K (.tuple #[sv (touchT t id now).2.1, .int .i64 (touchT t id now).2.2]) w') :
    Calls prog 21 #[.pointer (some ⟨p, 0, none⟩), .int .i64 id, .int .i64 now] w (Ret K) := by
  refine c21 ?_
  unfold B21
  refine ses_new h fun r w h => ?_
  refine Get_spec ok (tI_in h) fun w h => ?_
  rw [o_extract, o_extract]
  refine ses_in (tI_out h) fun sb w h => ?_
  unfold touchT at k
  by_cases h0 : (getT t id now).2 = 0
  · rw [if_pos h0] at k
    obtain ⟨_, hm, hid, _⟩ := getT_ok ok h0
    rw [h0]
    generalize hx : (getT t id now).1 = x at h k hm hid
    refine jn_cut (fun σ w => σ = [] ∧ sat E w (pts sb (.cells (scells (usedS x now)).toArray 59 (0, 0)) * (pts r (.cells (scells zeroS).toArray 59 (0, 0)) * tI p ⟨t.next, now, put1 t.l (usedS x now)⟩ b R))) (fun kj hkj => ?_) ?_
    · rw [o_eqInt, show decide ((0 : Int) = 0) = true from rfl, cd_true]
      simp only [↓o_nil, ↓o_field, ↓o_add, ↓o_sub, ↓o_mul, ↓o_lss, ↓o_leq, ↓o_gtr, ↓o_geq, ↓o_not, ↓o_pick, ↓o_eqInt, ↓o_neInt, ↓o_eqBool, ↓o_neBool, ↓o_eqPtr, ↓o_nePtr, ↓o_eqPtr', ↓o_eqSl, ↓o_neSl, ↓o_eqStr, ↓o_neStr, ↓o_len, ↓o_lenS, ↓o_min, ↓o_max, ↓o_extract, ↓o_convInt, ↓cd_true, ↓cd_false, ↓gate_tt, ↓gate_ff, ↓gate_tf, ↓gate_ft, ↓gate_undef, ↓o_bind, ↓stay_v, ↓pop_cons, ↓fin_nil, Option.isNone_none, Option.isNone_some, Bool.not_true, Bool.not_false, Nat.zero_add, decide_true, decide_false, if_true, if_false, Bool.false_eq_true, ↓reduceIte]
      refine store_sl (b := sb) h rfl (by simp [scells]) fun w h => ?_
      have h : sat E w (pts sb (.cells (scells (usedS x now)).toArray 59 (0, 0)) * (pts r (.cells (scells zeroS).toArray 59 (0, 0)) * tI p t b R)) := h
      try simp only [↓o_nil, ↓o_field, ↓o_add, ↓o_sub, ↓o_mul, ↓o_lss, ↓o_leq, ↓o_gtr, ↓o_geq, ↓o_not, ↓o_pick, ↓o_eqInt, ↓o_neInt, ↓o_eqBool, ↓o_neBool, ↓o_eqPtr, ↓o_nePtr, ↓o_eqPtr', ↓o_eqSl, ↓o_neSl, ↓o_eqStr, ↓o_neStr, ↓o_len, ↓o_lenS, ↓o_min, ↓o_max, ↓o_extract, ↓o_convInt, ↓cd_true, ↓cd_false, ↓gate_tt, ↓gate_ff, ↓gate_tf, ↓gate_ft, ↓gate_undef, ↓o_bind, ↓stay_v, ↓pop_cons, ↓fin_nil, Option.isNone_none, Option.isNone_some, Bool.not_true, Bool.not_false, Nat.zero_add, decide_true, decide_false, if_true, if_false, Bool.false_eq_true, ↓reduceIte]
      refine store_sl (b := p) h rfl (by simp [tcells]) fun w h => ?_
      have h : sat E w (pts p (.cells (tcells ⟨t.next, now, t.l⟩ b).toArray 96 (0, 0)) * _) := h
      refine dr_sl h fun w h _ => ?_
      try simp only [↓o_nil, ↓o_field, ↓o_add, ↓o_sub, ↓o_mul, ↓o_lss, ↓o_leq, ↓o_gtr, ↓o_geq, ↓o_not, ↓o_pick, ↓o_eqInt, ↓o_neInt, ↓o_eqBool, ↓o_neBool, ↓o_eqPtr, ↓o_nePtr, ↓o_eqPtr', ↓o_eqSl, ↓o_neSl, ↓o_eqStr, ↓o_neStr, ↓o_len, ↓o_lenS, ↓o_min, ↓o_max, ↓o_extract, ↓o_convInt, ↓cd_true, ↓cd_false, ↓gate_tt, ↓gate_ff, ↓gate_tf, ↓gate_ft, ↓gate_undef, ↓o_bind, ↓stay_v, ↓pop_cons, ↓fin_nil, Option.isNone_none, Option.isNone_some, Bool.not_true, Bool.not_false, Nat.zero_add, decide_true, decide_false, if_true, if_false, Bool.false_eq_true, ↓reduceIte]
      refine ld_in (b := p) (v := .map (some b)) h rfl ?_
      try simp only [↓o_nil, ↓o_field, ↓o_add, ↓o_sub, ↓o_mul, ↓o_lss, ↓o_leq, ↓o_gtr, ↓o_geq, ↓o_not, ↓o_pick, ↓o_eqInt, ↓o_neInt, ↓o_eqBool, ↓o_neBool, ↓o_eqPtr, ↓o_nePtr, ↓o_eqPtr', ↓o_eqSl, ↓o_neSl, ↓o_eqStr, ↓o_neStr, ↓o_len, ↓o_lenS, ↓o_min, ↓o_max, ↓o_extract, ↓o_convInt, ↓cd_true, ↓cd_false, ↓gate_tt, ↓gate_ff, ↓gate_tf, ↓gate_ft, ↓gate_undef, ↓o_bind, ↓stay_v, ↓pop_cons, ↓fin_nil, Option.isNone_none, Option.isNone_some, Bool.not_true, Bool.not_false, Nat.zero_add, decide_true, decide_false, if_true, if_false, Bool.false_eq_true, ↓reduceIte]
      refine ld_agg (b := sb) (xs := scells (usedS x now)) h rfl ?_
      refine update_sl (b := b) (v := sv (usedS x now)) h fun w h => ?_
      have e : id = (usedS x now).id := hid.symm
      rw [e, putM_old (y := usedS x now) ok.rise ⟨x, hm, rfl⟩] at h
      refine hkj _ _ ⟨rfl, ?_⟩
      unfold tI
      exact h.perm (by ac_rfl)
    · clear h
      rintro σ w ⟨rfl, h⟩
      rw [fin_nil]
      refine ld_agg (b := sb) (xs := scells (usedS x now)) h rfl ?_
      exact ses_ret (b := r) (x := zeroS) (y := usedS x now) h fun w h => k w h.drop.drop
  · rw [if_neg h0] at k
    refine jn_cut (fun σ w => σ = [] ∧ sat E w (pts sb (.cells (scells (getT t id now).1).toArray 59 (0, 0)) * (pts r (.cells (scells zeroS).toArray 59 (0, 0)) * tI p t b R))) (fun kj hkj => ?_) ?_
    · rw [o_eqInt, decide_eq_false h0, cd_false]
      exact hkj _ _ ⟨rfl, h⟩
    · clear h
      rintro σ w ⟨rfl, h⟩
      rw [fin_nil]
      refine ld_agg (b := sb) (xs := scells (getT t id now).1) h rfl ?_
      exact ses_ret (b := r) (x := zeroS) (y := (getT t id now).1) h fun w h => k w h.drop.drop
def endT (t : Tb) (id : Int) : Tb × Int := (⟨t.next, t.noted, drop1 t.l id⟩, (findT t id).2)
def drops (l : List Ses) (ids : List Int) : List Ses := l.filter fun x => decide (x.id ∉ ids)
theorem drops_cons (l : List Ses) (a : List Int) (id : Int) : drop1 (drops l a) id = drops l (a ++ [id]) := by
  unfold drop1 drops
  rw [List.filter_filter]
  refine List.filter_congr fun x _ => ?_
  rw [Bool.eq_iff_iff]
  simp
  constructor
  · rintro ⟨h1, h2⟩; exact ⟨h2, h1⟩
  · rintro ⟨h1, h2⟩; exact ⟨h2, h1⟩
theorem drops_rise {l : List Ses} {a : List Int} (h : l.Pairwise fun x y => x.id < y.id) : (drops l a).Pairwise fun x y => x.id < y.id := h.filter _
/-- Some are ended. -/
theorem ended_spec {p b m : Nat} {t : Tb} {q : List Ses} {v : Value} (ok : OkT t m) (hq : q.length ≤ 1000000) (h : sat E w (osl 59 5 v q.length (svs q) * tI p t b R))
    (k : ∀ u w', sat E w' (osl 3 1 u q.length ((q.map (·.id)).map iv) * tI p ⟨t.next, t.noted, drops t.l (q.map (·.id))⟩ b R) → K u w') :
    Calls prog 47 #[.pointer (some ⟨p, 0, none⟩), v] w (Ret K) := by
  obtain ⟨qa, qc, rfl, hqc, _, hpos⟩ := osl_shape h
  refine c47 ?_
  unfold B47
  rw [o_len]
  refine lp_nat (fun r σ w => ∃ (i : Nat) (out : Value), σ = [out, .int .i64 (i : Int)] ∧ r = q.length - i ∧ i ≤ q.length ∧
      sat E w (osl 3 1 out i (((q.take i).map (·.id)).map iv) * (osl 59 5 (.slice qa q.length qc) q.length (svs q) * tI p ⟨t.next, t.noted, drops t.l ((q.take i).map (·.id))⟩ b R))) q.length
    ⟨0, _, rfl, by omega, by omega, ?_⟩ ?_
  · have e : drops t.l ((q.take 0).map (·.id)) = t.l := List.filter_eq_self.2 fun x _ => by simp
    rw [e]
    exact osl_nil h 3 1
  clear h
  rintro r σ w again ⟨i, out, rfl, rfl, hi, h⟩ hag
  rw [pop_cons, pop_cons, fin_nil, o_lss]
  refine cd_dec (fun hlt => ?_) (fun hge => ?_)
  · have hi1 : i < q.length := by omega
    have hx : q[i]? = some q[i] := List.getElem?_eq_getElem hi1
    have htk : q.take (i + 1) = q.take i ++ [q[i]] := List.take_succ_eq_append_getElem hi1
    generalize q[i] = x at hx htk
    obtain ⟨ub, hub⟩ := hpos (by omega)
    subst hub
    rw [o_index (by omega) (by omega)]
    have hrd : Rds (osl 3 1 out i (((q.take i).map (·.id)).map iv) * (osl 59 5 (.slice (some ⟨ub, 0, none⟩) q.length qc) q.length (svs q) * tI p ⟨t.next, t.noted, drops t.l ((q.take i).map (·.id))⟩ b R)) (.slice (some ⟨ub, 0, none⟩) q.length qc) q.length (svs q) := Rds.osl.left.right
    refine ld_el h hrd (i * 5) (by simp) (scells x) rfl (svs_at hx) ?_
    refine ses_in (x := x) h fun sb w h => ?_
    refine dr_sl h fun w h _ => ?_
    try simp only [↓o_nil, ↓o_field, ↓o_add, ↓o_sub, ↓o_mul, ↓o_lss, ↓o_leq, ↓o_gtr, ↓o_geq, ↓o_not, ↓o_pick, ↓o_eqInt, ↓o_neInt, ↓o_eqBool, ↓o_neBool, ↓o_eqPtr, ↓o_nePtr, ↓o_eqPtr', ↓o_eqSl, ↓o_neSl, ↓o_eqStr, ↓o_neStr, ↓o_len, ↓o_lenS, ↓o_min, ↓o_max, ↓o_extract, ↓o_convInt, ↓cd_true, ↓cd_false, ↓gate_tt, ↓gate_ff, ↓gate_tf, ↓gate_ft, ↓gate_undef, ↓o_bind, ↓stay_v, ↓pop_cons, ↓fin_nil, Option.isNone_none, Option.isNone_some, Bool.not_true, Bool.not_false, Nat.zero_add, decide_true, decide_false, if_true, if_false, Bool.false_eq_true, ↓reduceIte]
    refine ld_in (b := p) (v := .map (some b)) h rfl ?_
    refine ld_in (b := sb) (v := .int .i64 x.id) h rfl ?_
    refine delete_sl (b := b) h fun w h => ?_
    rw [delM_mp (drops_rise ok.rise), drops_cons] at h
    try simp only [↓o_nil, ↓o_field, ↓o_add, ↓o_sub, ↓o_mul, ↓o_lss, ↓o_leq, ↓o_gtr, ↓o_geq, ↓o_not, ↓o_pick, ↓o_eqInt, ↓o_neInt, ↓o_eqBool, ↓o_neBool, ↓o_eqPtr, ↓o_nePtr, ↓o_eqPtr', ↓o_eqSl, ↓o_neSl, ↓o_eqStr, ↓o_neStr, ↓o_len, ↓o_lenS, ↓o_min, ↓o_max, ↓o_extract, ↓o_convInt, ↓cd_true, ↓cd_false, ↓gate_tt, ↓gate_ff, ↓gate_tf, ↓gate_ft, ↓gate_undef, ↓o_bind, ↓stay_v, ↓pop_cons, ↓fin_nil, Option.isNone_none, Option.isNone_some, Bool.not_true, Bool.not_false, Nat.zero_add, decide_true, decide_false, if_true, if_false, Bool.false_eq_true, ↓reduceIte]
    refine ld_in (b := sb) (v := .int .i64 x.id) h rfl ?_
    refine push_sl (v := out) h rfl rfl (by omega) (by omega) fun v2 w h => ?_
    try rw [o_add]
    rw [i64_of (by omega) (by omega)]
    refine hag (q.length - (i + 1)) _ _ (by omega) ⟨i + 1, v2, rfl, rfl, by omega, ?_⟩
    have h := h.lose sb
    rw [htk]
    simp only [List.map_append, List.map_cons, List.map_nil]
    unfold tI at h ⊢
    exact h.perm (by simp only [iv, tcells]; ac_rfl)
  · have hi2 : i = q.length := by omega
    subst hi2
    rw [List.take_length] at h
    refine k out w ?_
    have h := h.perm (show _ = osl 59 5 (.slice qa q.length qc) q.length (svs q) * (osl 3 1 out q.length ((q.map (·.id)).map iv) * tI p ⟨t.next, t.noted, drops t.l (q.map (·.id))⟩ b R) by ac_rfl)
    exact h.drop
theorem drops_filter {l : List Ses} {f : Ses → Bool} (hr : l.Pairwise fun x y => x.id < y.id) : drops l ((l.filter f).map (·.id)) = l.filter fun x => !f x := by
  unfold drops
  refine List.filter_congr fun x hx => ?_
  rw [Bool.eq_iff_iff, decide_eq_true_iff]
  constructor
  · intro h
    rw [Bool.not_eq_true']
    by_cases hf : f x = true
    · exact absurd (List.mem_map.2 ⟨x, List.mem_filter.2 ⟨hx, hf⟩, rfl⟩) h
    · simpa using hf
  · intro h hm
    obtain ⟨y, hy, e⟩ := List.mem_map.1 hm
    obtain ⟨hy1, hy2⟩ := List.mem_filter.1 hy
    have : y = x := by
      obtain ⟨i, hi, ei⟩ := List.getElem_of_mem hx
      obtain ⟨j, hj, ej⟩ := List.getElem_of_mem hy1
      have h1 := findS_at hr (i := i) (x := x) (by rw [List.getElem?_eq_getElem hi, ei])
      have h2 := findS_at hr (i := j) (x := y) (by rw [List.getElem?_eq_getElem hj, ej])
      rw [e, h1] at h2
      exact (Option.some.inj h2).symm
    subst this
    rw [hy2] at h
    cases h
def endAllT (t : Tb) (o : Own2) : Tb × List Int := (⟨t.next, t.noted, t.l.filter fun x => !decide (x.own = o)⟩, (t.l.filter fun x => decide (x.own = o)).map (·.id))
def sweepT (t : Tb) (now : Int) : Tb × List Int := (⟨t.next, now, t.l.filter fun x => !decide (untilS x ≤ now)⟩, (t.l.filter fun x => decide (untilS x ≤ now)).map (·.id))
theorem ok_noted {t : Tb} {m : Nat} {now : Int} (ok : OkT t m) (h : timeE t now = 0) : OkT ⟨t.next, now, t.l⟩ m := by
  obtain ⟨a, b, c⟩ := time_ok h
  exact ⟨ok.n1, ok.n2, a, b, ok.rise, fun x hx => ⟨(ok.all x hx).id1, (ok.all x hx).id2, (ok.all x hx).s0, (ok.all x hx).s1, by have := (ok.all x hx).u1; simp only; omega⟩, ok.few⟩
theorem Sweep_spec {p b m : Nat} {t : Tb} {now : Int} (ok : OkT t m) (hm : m ≤ 1000000) (h : sat E w (tI p t b R))
    (k0 : timeE t now ≠ 0 → ∀ w', sat E w' (tI p t b R) → K (.tuple #[.slice none 0 0, .int .i64 (timeE t now)]) w')
    (k1 : timeE t now = 0 → ∀ u w', sat E w' (osl 3 1 u (sweepT t now).2.length ((sweepT t now).2.map iv) * tI p (sweepT t now).1 b R) → K (.tuple #[u, .int .i64 0]) w') :
    Calls prog 17 #[.pointer (some ⟨p, 0, none⟩), .int .i64 now] w (Ret K) := by
  refine c17 ?_
  unfold B17
  refine box_sl h fun nb w h => ?_
  have h : sat E w (boxN nb now * tI p t b R) := h
  refine ld_in (b := nb) (v := .int .i64 now) h rfl ?_
  refine time_spec (tI_in h) fun w h => ?_
  rw [o_neInt]
  by_cases he : timeE t now = 0
  · rw [show (!decide (timeE t now = 0)) = false by simp [he], cd_false]
    refine ld_in (b := nb) (v := .int .i64 now) h rfl ?_
    simp only [↓o_nil, ↓o_field, ↓o_add, ↓o_sub, ↓o_mul, ↓o_lss, ↓o_leq, ↓o_gtr, ↓o_geq, ↓o_not, ↓o_pick, ↓o_eqInt, ↓o_neInt, ↓o_eqBool, ↓o_neBool, ↓o_eqPtr, ↓o_nePtr, ↓o_eqPtr', ↓o_eqSl, ↓o_neSl, ↓o_eqStr, ↓o_neStr, ↓o_len, ↓o_lenS, ↓o_min, ↓o_max, ↓o_extract, ↓o_convInt, ↓cd_true, ↓cd_false, ↓gate_tt, ↓gate_ff, ↓gate_tf, ↓gate_ft, ↓gate_undef, ↓o_bind, ↓stay_v, ↓pop_cons, ↓fin_nil, Option.isNone_none, Option.isNone_some, Bool.not_true, Bool.not_false, Nat.zero_add, decide_true, decide_false, if_true, if_false, Bool.false_eq_true, ↓reduceIte]
    refine store_sl (b := p) h rfl (by simp [tcells]) fun w h => ?_
    have h : sat E w (tI p ⟨t.next, now, t.l⟩ b (boxN nb now * R)) := h
    have ok2 := ok_noted ok he
    refine pvv_of (v := .func (.func 49) #[] #[.pointer (some ⟨nb, 0, none⟩)]) (fun _ => rfl) ?_
    refine all_spec (pr := fun x => decide (untilS x ≤ now)) ok2 hm h (fun x X w K' hx h k' => SweepF_spec (nb := nb) (ok.all x hx).okT h k') fun u w h => ?_
    have hl : (t.l.filter fun x => decide (untilS x ≤ now)).length ≤ 1000000 := Nat.le_trans (List.length_filter_le _ _) (by have := ok.few; omega)
    refine ended_spec ok2 hl h fun u w h => k1 he u w ?_
    rw [drops_filter ok.rise] at h
    have h := h.perm (show _ = boxN nb now * (osl 3 1 u (t.l.filter fun x => decide (untilS x ≤ now)).length (((t.l.filter fun x => decide (untilS x ≤ now)).map (·.id)).map iv) * tI p (sweepT t now).1 b R) by unfold tI; ac_rfl)
    have h := h.drop
    simpa [sweepT] using h
  · rw [show (!decide (timeE t now = 0)) = true by simp [he], cd_true]
    exact k0 he w (tI_out h).drop
end Go.Proofs.YtbcimkjgpplcpaaDoor

/-
  What stays true of a table; what must be whatever is asked.
-/
set_option linter.all false
set_option maxRecDepth 100000
namespace Go.Proofs.YtbcimkjgpplcpaaDoor
open Go Hold
variable {E : World0} {w : World} {H R X : HP} {K : Value → World → Prop}
theorem ok_up {t : Tb} {m : Nat} (ok : OkT t m) : OkT t (m + 1) := ⟨ok.n1, by have := ok.n2; omega, ok.t0, ok.t1, ok.rise, ok.all, by have := ok.few; omega⟩
theorem ok_begin {t : Tb} {m : Nat} {o : Own2} {now : Int} (ok : OkT t m) : OkT (beginT t o now).1 (m + 1) := by
  unfold beginT
  split
  · exact ok_up ok
  · split
    · exact ok_up ok
    · rename_i he
      have he : timeE t now = 0 := by simpa using he
      split
      · exact ok_up ok
      · split
        · exact ok_up ok
        · obtain ⟨a, b, c⟩ := time_ok he
          have n1 := ok.n1; have n2 := ok.n2; have := ok.few
          refine ⟨by simp only; omega, by simp only; omega, a, b, ?_, ?_, by simp only [List.length_append, List.length_singleton]; omega⟩
          · refine List.pairwise_append.2 ⟨ok.rise, List.pairwise_singleton _ _, fun x hx y hy => ?_⟩
            rw [List.mem_singleton.1 hy]
            exact (ok.all x hx).id2
          · intro x hx
            rcases List.mem_append.1 hx with hx | hx
            · have := ok.all x hx
              exact ⟨this.id1, by have := this.id2; simp only; omega, this.s0, this.s1, by have := this.u1; simp only; omega⟩
            · rw [List.mem_singleton.1 hx]
              exact ⟨n1, by simp only; omega, a, by simp only; omega, by simp only; omega⟩
theorem ok_sub {t : Tb} {m : Nat} (ok : OkT t m) {l : List Ses} (h : l.Sublist t.l) : OkT ⟨t.next, t.noted, l⟩ m :=
  ⟨ok.n1, ok.n2, ok.t0, ok.t1, ok.rise.sublist h, fun x hx => by have := ok.all x (h.subset hx); exact ⟨this.id1, this.id2, this.s0, this.s1, this.u1⟩, Nat.le_trans h.length_le ok.few⟩
theorem ok_end {t : Tb} {m : Nat} {id : Int} (ok : OkT t m) : OkT (endT t id).1 m := ok_sub ok List.filter_sublist
theorem ok_endAll {t : Tb} {m : Nat} {o : Own2} (ok : OkT t m) : OkT (endAllT t o).1 m := ok_sub ok List.filter_sublist
theorem ok_sweep {t : Tb} {m : Nat} {now : Int} (ok : OkT t m) (h : timeE t now = 0) : OkT (sweepT t now).1 m := ok_sub (ok_noted ok h) List.filter_sublist
theorem ok_touch {t : Tb} {m : Nat} {id now : Int} (ok : OkT t m) : OkT (touchT t id now).1 m := by
  unfold touchT
  split
  · rename_i h0
    obtain ⟨he, hm, hid, hu⟩ := getT_ok ok h0
    generalize (getT t id now).1 = x at hm hid hu
    have ok2 := ok_noted ok he
    have hx := ok.all x hm
    obtain ⟨a, b, c⟩ := time_ok he
    have hids : ∀ y ∈ t.l, (if y.id = (usedS x now).id then usedS x now else y).id = y.id := fun y _ => by split <;> simp_all
    refine ⟨ok2.n1, ok2.n2, ok2.t0, ok2.t1, ?_, ?_, by unfold put1; simpa using ok.few⟩
    · unfold put1
      rw [List.pairwise_map]
      refine ok.rise.imp_of_mem fun {y z} hy hz hlt => ?_
      rw [hids y hy, hids z hz]
      exact hlt
    · intro y hy
      obtain ⟨z, hz, rfl⟩ := List.mem_map.1 hy
      split
      · exact ⟨hx.id1, hx.id2, hx.s0, by have := hx.s1; have := hx.u1; simp only [usedS]; omega, by simp only [usedS]; omega⟩
      · have h9 := ok2.all z hz
        exact ⟨h9.id1, h9.id2, h9.s0, h9.s1, h9.u1⟩
  · exact ok
end Go.Proofs.YtbcimkjgpplcpaaDoor

/-
  Families of sessions that are there, tokens of families that are there. No program in sight.
-/
set_option linter.all false
set_option maxRecDepth 100000
namespace Go.Proofs.YtbcimkjgpplcpaaDoor.T
open Go Hold
theorem dropAll_f : ∀ (l : List Fam) {s : St} {f : Fam}, f ∈ (dropAll s l).f ↔ f ∈ s.f ∧ f.id ∉ l.map Fam.id
  | [], s, f => by simp [dropAll]
  | x :: l, s, f => by
    have ih := dropAll_f l (s := dropS s x.id) (f := f)
    have e : dropAll s (x :: l) = dropAll (dropS s x.id) l := rfl
    rw [e, ih]
    have : f ∈ (dropS s x.id).f ↔ f ∈ s.f ∧ f.id ≠ x.id := by unfold dropS dropG; simp
    rw [this, List.map_cons, List.mem_cons, not_or, and_assoc]
theorem dropAll_k : ∀ (l : List Fam) {s : St} {y : Tok}, y ∈ (dropAll s l).k ↔ y ∈ s.k ∧ y.fam ∉ l.map Fam.id
  | [], s, y => by simp [dropAll]
  | x :: l, s, y => by
    have ih := dropAll_k l (s := dropS s x.id) (y := y)
    have e : dropAll s (x :: l) = dropAll (dropS s x.id) l := rfl
    rw [e, ih]
    have : y ∈ (dropS s x.id).k ↔ y ∈ s.k ∧ y.fam ≠ x.id := by unfold dropS; simp
    rw [this, List.map_cons, List.mem_cons, not_or, and_assoc]
theorem dropAll_n : ∀ (l : List Fam) {s : St}, (dropAll s l).noted = s.noted ∧ (dropAll s l).fn = s.fn ∧ (dropAll s l).kn = s.kn
  | [], s => ⟨rfl, rfl, rfl⟩
  | x :: l, s => dropAll_n l (s := dropS s x.id)
structure J (t : Tb) (s : St) (now : Int) : Prop where
  tn : t.noted ≤ now
  sn : s.noted ≤ now
  kf : ∀ x ∈ s.k, ∃ f ∈ s.f, f.id = x.fam
  fs : ∀ f ∈ s.f, ∃ y ∈ t.l, y.id = f.ses
def L (t : Tb) (now : Int) : Prop := ∀ y ∈ t.l, now < untilS y
theorem j_sweep {t : Tb} {s : St} {n now : Int} {m : Nat} (ok : OkS s m) (j : J t s n) (hn : n ≤ now) : J (sweepT t now).1 (dropAll s (s.f.filter (esP (sweepT t now).2))) now ∧ L (sweepT t now).1 now := by
  refine ⟨⟨Int.le_refl _, by rw [(dropAll_n _).1]; have := j.sn; omega, fun x hx => ?_, fun f hf => ?_⟩, fun y hy => ?_⟩
  · obtain ⟨h1, h2⟩ := (dropAll_k _).1 hx
    obtain ⟨f, hf, e⟩ := j.kf x h1
    exact ⟨f, (dropAll_f _).2 ⟨hf, by rw [e]; exact h2⟩, e⟩
  · obtain ⟨h1, h2⟩ := (dropAll_f _).1 hf
    obtain ⟨y, hy, e⟩ := j.fs f h1
    refine ⟨y, ?_, e⟩
    unfold sweepT
    refine List.mem_filter.2 ⟨hy, ?_⟩
    by_cases hu : untilS y ≤ now
    · refine absurd (List.mem_map.2 ⟨f, List.mem_filter.2 ⟨h1, ?_⟩, rfl⟩) h2
      unfold esP sweepT
      refine decide_eq_true ?_
      rw [← e]
      exact List.mem_map.2 ⟨y, List.mem_filter.2 ⟨hy, decide_eq_true hu⟩, rfl⟩
    · simp [hu]
  · unfold sweepT at hy
    have := (List.mem_filter.1 hy).2
    simp at this
    exact this
theorem j_begin {t : Tb} {s : St} {now : Int} {o : Own2} (j : J t s now) (l : L t now) (hn : 0 ≤ now ∧ now ≤ 1000000) : J (beginT t o now).1 s now ∧ L (beginT t o now).1 now := by
  unfold beginT
  repeat' split
  all_goals try exact ⟨j, l⟩
  refine ⟨⟨Int.le_refl _, j.sn, j.kf, fun f hf => ?_⟩, fun y hy => ?_⟩
  · obtain ⟨y, hy, e⟩ := j.fs f hf
    exact ⟨y, List.mem_append_left _ hy, e⟩
  · rcases List.mem_append.1 hy with hy | hy
    · exact l y hy
    · rw [List.mem_singleton.1 hy]
      unfold untilS later
      rw [if_neg (by simp only; omega), if_neg (by simp only; omega)]
      simp only
      omega
theorem j_touch {t : Tb} {s : St} {now id : Int} {m : Nat} (okt : OkT t m) (j : J t s now) (l : L t now) (hn : 0 ≤ now ∧ now ≤ 1000000) : J (touchT t id now).1 s now ∧ L (touchT t id now).1 now := by
  unfold touchT
  split
  · rename_i h0
    obtain ⟨he, hm, hid, hu⟩ := getT_ok okt h0
    generalize (getT t id now).1 = x at hm hid hu
    refine ⟨⟨Int.le_refl _, j.sn, j.kf, fun f hf => ?_⟩, fun y hy => ?_⟩
    · obtain ⟨y, hy, e⟩ := j.fs f hf
      refine ⟨_, List.mem_map.2 ⟨y, hy, rfl⟩, ?_⟩
      split
      · rename_i e2; rw [← e2]; exact e
      · exact e
    · obtain ⟨z, hz, rfl⟩ := List.mem_map.1 hy
      split
      · have hl : later now 200 = now + 200 := by unfold later; rw [if_neg (by omega)]
        unfold untilS at hu ⊢
        simp only [usedS, hl]
        omega
      · exact l z hz
  · exact ⟨j, l⟩
theorem j_grant {t : Tb} {s : St} {now ses : Int} {cl : List UInt8} {sc : UInt8} (j : J t s now) (hy : ∃ y ∈ t.l, y.id = ses) : J t (grantT s ses cl sc now).1 now := by
  unfold grantT
  repeat' split
  all_goals try exact j
  refine ⟨j.tn, Int.le_refl _, fun x hx => ?_, fun f hf => ?_⟩
  · rcases List.mem_append.1 hx with hx | hx
    · obtain ⟨f, hf, e⟩ := j.kf x hx
      exact ⟨f, List.mem_append_left _ hf, e⟩
    · rw [List.mem_singleton.1 hx]
      exact ⟨_, List.mem_append_right _ (List.mem_singleton.2 rfl), rfl⟩
  · rcases List.mem_append.1 hf with hf | hf
    · exact j.fs f hf
    · rw [List.mem_singleton.1 hf]
      exact hy
theorem find_in {s : St} {m : Nat} (ok : OkS s m) {f : Fam} (hf : f ∈ s.f) : findF s f.id = (f, 0) := by
  have h := ok.fa f hf
  unfold findF
  rw [if_neg (by have := h.id1; have := h.id2; omega), findG_mem ok.fr hf]
theorem get_in {t : Tb} {m : Nat} (ok : OkT t m) {now : Int} (h0 : 0 ≤ now) (h1 : now ≤ 1000000) (hn : t.noted ≤ now) (l : L t now) {y : Ses} (hy : y ∈ t.l) : (getT t y.id now).2 = 0 := by
  have h := ok.all y hy
  have e : Go.Proofs.YtbcimkjgpplcpaaDoor.timeE t now = 0 := by
    unfold Go.Proofs.YtbcimkjgpplcpaaDoor.timeE
    rw [if_neg (by omega), if_neg (by omega)]
  obtain ⟨i, hi, ei⟩ := List.getElem_of_mem hy
  have e2 : findT t y.id = (y, 0) := by
    unfold findT
    rw [if_neg (by have := h.id1; have := h.id2; omega), findS_at ok.rise (i := i) (by rw [List.getElem?_eq_getElem hi, ei])]
  have := l y hy
  unfold getT
  rw [if_neg (by simp [e]), e2, if_neg (by intro hh; have := hh.2; simp only at this; omega)]
end Go.Proofs.YtbcimkjgpplcpaaDoor.T
