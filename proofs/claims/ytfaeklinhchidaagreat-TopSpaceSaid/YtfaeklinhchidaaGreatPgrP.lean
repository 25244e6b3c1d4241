/-
  slices.Sorted(maps.Keys(m)): the keys of a map (I), rising.
-/
import Derived.Test.YtfaeklinhchidaaGreatPB
import Derived.Test.YtfaeklinhchidaaGreatPS
import Derived.Test.YtfaeklinhchidaaGreatSortK
import Derived.Test.YtfaeklinhchidaaGreatWalA
set_option linter.all false
set_option maxRecDepth 100000
namespace Go.Proofs.YtfaeklinhchidaaGreat.KI
open Go Hold
variable {E : World0} {w : World} {H R : HP} {K : Value → World → Prop}
def boxM (mb b : Nat) : HP := pts mb (.cells #[.map (some b)] 112 (0, 0))
instance hasM (mb b : Nat) : Has (boxM mb b) mb (.cells [Value.map (some b)].toArray 112 (0, 0)) := ⟨fun h => (h.perm (star_emp _).symm).pts_get⟩
theorem erase_perm {α : Type} {l : List α} {j : Nat} {x : α} (h : l[j]? = some x) : (x :: l.eraseIdx j).Perm l := by
  induction l generalizing j with
  | nil => simp at h
  | cons y l ih =>
    cases j with
    | zero => simp at h; subst h; exact List.Perm.refl _
    | succ j =>
      simp only [List.getElem?_cons_succ] at h
      rw [List.eraseIdx_cons_succ]
      exact (List.Perm.swap y x _).trans ((ih h).cons y)
theorem KeysIt_spec {b mb : Nat} {l : List (Int × Value)} {y : Value} (G : List Int → HP) (h : sat E w (G [] * (omap b l * (boxM mb b * H))))
    (hy : ∀ (ss : List Int) (x : Int) (F : HP) (w : World) (K' : Value → World → Prop), ss.length < l.length → sat E w (G ss * F) → (∀ w', sat E w' (G (ss ++ [x]) * F) → K' (.bool true) w') → ef prog (oCall y #[.int .i64 x]) w K')
    (k : ∀ (ss : List Int) w', ss.Perm (l.map (·.1)) → sat E w' (G ss * (omap b l * (boxM mb b * H))) → K (.tuple #[]) w') : Calls prog 138 #[y, .pointer (some ⟨mb, 0, none⟩)] w (Ret K) := by
  refine c138 ?_
  unfold B138
  refine ld_in (b := mb) (v := .map (some b)) h rfl ?_
  refine range_sl h fun i w h => ?_
  refine lp_nat (fun q σ w => ∃ (rest : List (Int × Value)) (ss : List Int), σ = [] ∧ q = rest.length ∧ (ss ++ rest.map (·.1)).Perm (l.map (·.1)) ∧ sat E w (omit_ i b l rest * (G ss * (boxM mb b * H)))) l.length ⟨l, [], rfl, rfl, List.Perm.refl _, h⟩ ?_
  clear h
  rintro q σ w again ⟨rest, ss, rfl, rfl, hp, h⟩ hag
  rw [fin_nil]
  refine next_sl (i := i) (b := b) (l := l) (rest := rest) h (fun h0 => ?_) (fun j x w hj hen h => ?_)
  · subst h0
    rw [o_extract, cd_false]
    simp only [List.map_nil, List.append_nil] at hp
    exact k ss w hp ((omit_close h).perm (star_left_comm _ _ _))
  · rw [o_extract, cd_true]
    refine efv_of hen ?_
    rw [o_extract]
    have hlt := (List.getElem?_eq_some_iff.1 hj).1
    have hl := hp.length_eq
    simp only [List.length_append, List.length_map] at hl
    have h := h.perm (show _ = G ss * (omit_ i b l (rest.eraseIdx j) * (boxM mb b * H)) by ac_rfl)
    refine hy ss x.1 _ w _ (by omega) h fun w h => ?_
    rw [o_not, Bool.not_true, cd_false]
    refine hag (rest.eraseIdx j).length _ _ (by rw [List.length_eraseIdx, if_pos hlt]; omega) ⟨rest.eraseIdx j, ss ++ [x.1], rfl, rfl, ?_, h.perm (by ac_rfl)⟩
    refine List.Perm.trans ?_ hp
    rw [List.append_assoc]
    refine List.Perm.append_left ss ?_
    exact (erase_perm hj).map (·.1)
theorem AppendSeq_spec {b mb : Nat} {l : List (Int × Value)} (hl : l.length ≤ 1000000) (h : sat E w (omap b l * (boxM mb b * H)))
    (k : ∀ (u : Value) (ss : List Int) w', ss.Perm (l.map (·.1)) → sat E w' (osl 3 1 u ss.length (ss.map iv) * (omap b l * (boxM mb b * H))) → K u w') :
    Calls prog 136 #[.slice none 0 0, .func (.func 138) #[] #[.pointer (some ⟨mb, 0, none⟩)]] w (Ret K) := by
  refine c136 ?_
  unfold B136
  refine box_sl h fun sb w h => ?_
  have h : sat E w (pts sb (.cells [Value.slice none 0 0].toArray 29 (0, 0)) * (omap b l * (boxM mb b * H))) := h
  refine rng_body h Tryz.func138 (by kernel_rfl) (by kernel_rfl) fun rec D D1 w h hround => ?_
  have h : sat E w (ex (fun v : Value => pts D1 (rec .ready none) * (pts sb (.cells [v].toArray 29 (0, 0)) * osl 3 1 v ([] : List Int).length (([] : List Int).map iv))) * (omap b l * (boxM mb b * (pts D (.deferred (some [])) * H)))) := by
    refine sat_ex_star.2 ⟨.slice none 0 0, ?_⟩
    have h := osl_nil h 3 1
    exact h.perm (by ac_rfl)
  refine KeysIt_spec (fun ss => ex fun v : Value => pts D1 (rec .ready none) * (pts sb (.cells [v].toArray 29 (0, 0)) * osl 3 1 v ss.length (ss.map iv))) h ?_ ?_
  · clear h
    intro ss x F w K' hlt h ht
    obtain ⟨v, h⟩ := sat_ex_star.1 h
    refine hround [.int .i64 x] w K' rfl h.has ?_
    rw [pop_cons, fin_nil]
    refine ⟨h.has, ?_⟩
    have h := (h.own D1).set (rec .busy none)
    refine ld_in (b := sb) (v := v) h rfl ?_
    refine push_sl (v := v) h rfl rfl (by omega) (by omega) fun v2 w h => ?_
    have hone : v2.oneCell' = true := by
      obtain ⟨_, _, rfl, _⟩ := osl_shape h
      rfl
    refine store_sl (b := sb) h hone (by simp) fun w h => ?_
    have h : sat E w (pts sb (.cells [v2].toArray 29 (0, 0)) * _) := h
    refine ⟨h.has, ht _ ?_⟩
    have h := (h.own D1).set (rec .ready none)
    refine sat_ex_star.2 ⟨v2, ?_⟩
    rw [List.length_append, List.map_append]
    exact h.perm (by simp only [List.map_cons, List.map_nil, List.length_singleton, iv]; ac_rfl)
  · clear h
    intro ss w hp h
    obtain ⟨v, h⟩ := sat_ex_star.1 h
    refine ⟨.ready, none, h.has, by simp, ?_⟩
    have h := (h.own D1).set (rec .exhausted none)
    simp only [jump]
    refine ld_in (b := sb) (v := v) h rfl ?_
    refine ⟨h.has, ?_⟩
    have h := (h.own D).set (.deferred none)
    refine k v ss _ hp ?_
    have h := h.perm (show _ = pts D (.deferred none) * (pts D1 (rec .exhausted none) * (pts sb (.cells [v].toArray 29 (0, 0)) * (osl 3 1 v ss.length (ss.map iv) * (omap b l * (boxM mb b * H))))) by ac_rfl)
    exact h.drop.drop.drop
theorem Sort_spec {v : Value} {zs : List Int} (h : sat E w (osl 3 1 v zs.length (zs.map iv) * R)) (hl : zs.length ≤ 1000000)
    (k : ∀ w', sat E w' (osl 3 1 v zs.length ((zs.mergeSort fun x y => decide (x ≤ y)).map iv) * R) → K (.tuple #[]) w') : Calls prog 29 #[v] w (Ret K) :=
  sort_sl (P := prog) (f := 29) (fun blk off cap zs w hH hb hz => AnyM.slices_Sort_int sortL blk off cap zs w hH hb hz) (fun p cap w => AnyM.slices_Sort_int_none sortL p cap w) h hl k
/-- The keys of a map, rising. -/
theorem SortedKeys_spec {b : Nat} {l : List (Int × Value)} (hl : l.length ≤ 1000000) (h : sat E w (omap b l * H))
    (k : ∀ (u : Value) (ss : List Int) w', ss.Perm (l.map (·.1)) → ss.Pairwise (· ≤ ·) → sat E w' (osl 3 1 u ss.length (ss.map iv) * (omap b l * H)) → K u w') :
    Calls prog 125 #[.map (some b)] w (Ret fun t w => Calls prog 76 #[t] w (Ret K)) := by
  refine c125 ?_
  unfold B125
  refine box_sl h fun mb w h => ?_
  have h : sat E w (boxM mb b * (omap b l * H)) := h
  refine pvv_of (v := .func (.func 138) #[] #[.pointer (some ⟨mb, 0, none⟩)]) (fun _ => rfl) ?_
  refine c76 ?_
  unfold B76
  refine c116 ?_
  unfold B116
  refine AppendSeq_spec (H := H) hl (h.perm (star_left_comm _ _ _)) fun u ss w hp h => ?_
  have hsl : ss.length ≤ 1000000 := by
    have := hp.length_eq
    simp only [List.length_map] at this
    omega
  refine Sort_spec h hsl fun w h => ?_
  have hpm := List.mergeSort_perm ss fun x y => decide (x ≤ y)
  refine k u (ss.mergeSort fun x y => decide (x ≤ y)) w (hpm.trans hp) ?_ ?_
  · have := List.pairwise_mergeSort (le := fun x y : Int => decide (x ≤ y)) (by intro a b c; simp; omega) (by intro a b; simp; omega) ss
    exact this.imp (by intro a b h; simpa using h)
  · rw [List.length_mergeSort]
    have h := h.perm (show _ = boxM mb b * (osl 3 1 u ss.length ((ss.mergeSort fun x y => decide (x ≤ y)).map iv) * (omap b l * H)) by ac_rfl)
    exact h.drop
end Go.Proofs.YtfaeklinhchidaaGreat.KI

/-
  A log: its head is written; its pages that the log has; a checkpoint.
-/
set_option linter.all false
set_option maxRecDepth 100000
namespace Go.Proofs.YtfaeklinhchidaaGreat
open Go Hold
variable {E : World0} {w : World} {H R X : HP} {K : Value → World → Prop}
theorem getD_of {L : List Bs} {n : Nat} (h : n < L.length) : L.getD n [] = L[n] := by rw [List.getD_eq_getElem?_getD, List.getElem?_eq_getElem h]; rfl
/-- A block is written. -/
theorem wr_spec (h : sat E w H) {d : Nat} (S : Lg) [s : DskS H d S.L S.W R] {n : Nat} {v : Value} {l : Bs} (hn : n < S.L.length) (hl : l.length = 256) (hW : S.W.length ≤ 1000000) (hv : Rds R v 256 (l.map bv))
    (k : ∀ w', sat E w' (dsk d (wr S n l).L (wr S n l).W * R) → K (.int .i64 0) w') : Calls prog 94 #[.pointer (some ⟨d, 0, none⟩), .int .i64 n, v] w (Ret K) := by
  refine Write_spec h hn hl hW (by rw [hl]; exact hv) fun w h => k w ?_
  unfold wr
  rw [getD_of hn]
  exact h
theorem hd_bytes (g u : Nat) : over (over ((zeros.set 0 72).set 1 70) 2 (be 8 g)) 10 (be 2 u) = hdB g u := by kernel_rfl
theorem Head_spec {p d b : Nat} {S : Lg} (h : sat E w (lgI p d b S R)) (hl : 0 < S.L.length) (hW : S.W.length ≤ 1000000)
    (k : ∀ w', sat E w' (lgI p d b (wr S 0 (hdB S.groups S.used)) R) → K (.tuple #[]) w') : Calls prog 95 #[.pointer (some ⟨p, 0, none⟩)] w (Ret K) := by
  refine c95 ?_
  unfold B95
  unfold lgI lcells at h
  refine make_sl h rfl (by omega) (by omega) (by omega) (by omega) fun q w h => ?_
  have e3 : (256 : Int).toNat = 256 := rfl
  rw [e3] at h ⊢
  rw [zeros_map] at h
  rw [o_index (by omega) (by omega)]
  simp only [↓opsA, opsB, if_true, if_false, ↓reduceIte, Int.toNat_zero, Nat.zero_mul, Nat.add_zero]
  refine store_sl h rfl (by simp [zeros]) fun w h => ?_
  rw [o_index (by omega) (by omega)]
  simp only [↓opsA, opsB, if_true, if_false, ↓reduceIte, show (1 : Int).toNat * 1 = 1 from rfl]
  refine store_sl h rfl (by simp [zeros]) fun w h => ?_
  rw [show (Value.int .u8 72) = bv 72 from rfl, show (Value.int .u8 70) = bv 70 from rfl, ← List.map_set, ← List.map_set] at h
  refine dr_sl h fun w h _ => ?_
  rw [o_slice_lh (by omega) (by omega) (by omega), cutA_some (by decide)]
  try simp only [↓opsA, opsB, if_true, if_false, ↓reduceIte]
  refine ld_at h ?_
  refine set_spec h (m := 8) (by omega) (by simp [zeros]) fun w h => ?_
  refine dr_sl h fun w h _ => ?_
  rw [o_slice_lh (by omega) (by omega) (by omega), cutA_some (by decide)]
  try simp only [↓opsA, opsB, if_true, if_false, ↓reduceIte]
  refine ld_at h ?_
  refine set_spec h (o := 10) (m := 2) (by omega) (by rw [over_length (by simp [zeros, be_length])]; simp [zeros]) fun w h => ?_
  try simp only [↓opsA, opsB, if_true, if_false, ↓reduceIte]
  refine ld_at h ?_
  simp only [show (2 : Int).toNat * 1 = 2 from rfl, Nat.zero_add] at h
  rw [hd_bytes] at h
  have hb := hdB_length S.groups S.used
  have h := osl_of (n := 256) (sz := 1) h (by rw [List.length_map, hb]) (by omega)
  refine wr_spec h S (l := hdB S.groups S.used) hl hb hW Rds.own fun w h => ?_
  refine k w ?_
  unfold lgI lcells
  exact (h.split (osl 5 1 (.slice (some ⟨q, 0, none⟩) 256 256) 256 ((hdB S.groups S.used).map bv))).drop.perm (by ac_rfl)
theorem sortI_of {ss l : List Int} (hp : ss.Perm l) (hs : ss.Pairwise (· ≤ ·)) : ss = sortI l := by
  have h1 : (sortI l).Pairwise (· ≤ ·) := by
    have := List.pairwise_mergeSort (le := fun x y : Int => decide (x ≤ y)) (by intro a b c; simp; omega) (by intro a b; simp; omega) l
    exact this.imp (by intro a b h; simpa using h)
  exact (hp.trans (List.mergeSort_perm l _).symm).eq_of_pairwise (fun x y _ _ a b => by omega) hs h1
theorem Touched_spec {p d b : Nat} {S : Lg} (h : sat E w (lgI p d b S R)) (hl : S.a.length ≤ 1000000)
    (k : ∀ u w', sat E w' (osl 3 1 u (touched S).length ((touched S).map iv) * lgI p d b S R) → K u w') : Calls prog 96 #[.pointer (some ⟨p, 0, none⟩)] w (Ret K) := by
  refine c96 ?_
  unfold B96
  try simp only [↓opsA, opsB, if_true, if_false, ↓reduceIte]
  unfold lgI lcells at h
  refine ld_at h ?_
  refine KI.SortedKeys_spec (b := b) (by rw [mpA_length]; exact hl) (h.ownm b) fun u ss w hp hs h => ?_
  rw [mpA_keys] at hp
  have e : ss = touched S := sortI_of hp hs
  subst e
  refine k u w ?_
  unfold lgI lcells
  exact h.perm (by ac_rfl)
theorem LInv.look {S : Lg} {gs : List (List Int)} (h : LInv S gs) {n : Nat} {v : Int} (e : lookA S.a n = some v) : 0 ≤ v := by
  have := h.atOk.all _ (lookA_mem e); omega
theorem putA_len (k v : Int) : ∀ l, (putA l k v).length ≤ l.length + 1
  | [] => by simp [putA]
  | x :: l => by
    have := putA_len k v l
    unfold putA
    split <;> simp only [List.length_cons] <;> omega
theorem putN_len : ∀ (g : List Int) (a : List (Int × Int)) (u : Nat), (putN a u g).length ≤ a.length + g.length
  | [], a, u => by simp [putN]
  | x :: g, a, u => by
    have h1 := putN_len g (putA a x u) (u + 1)
    have h2 := putA_len x u a
    simp only [putN, List.length_cons]; omega
theorem atFrom_len : ∀ (gs : List (List Int)) (a : List (Int × Int)) (n : Nat), (atFrom a n gs).length ≤ a.length + endOf gs
  | [], a, n => by simp [atFrom]
  | g :: gs, a, n => by
    have h1 := atFrom_len gs (putN a (n + 2) g) (n + (g.length + 1))
    have h2 := putN_len g a (n + 2)
    have h3 : endOf (g :: gs) = g.length + 1 + endOf gs := by simp [endOf]
    simp only [atFrom]; omega
theorem LInv.few {S : Lg} {gs : List (List Int)} (h : LInv S gs) : S.a.length ≤ 1024 := by
  have h1 := atFrom_len gs [] 0
  have h2 := h.ue; have h3 := h.ule; have h4 := h.sz; have h5 := h.wf.le
  rw [h.a]
  simp only [List.length_nil] at h1
  omega
theorem Check_spec {p d b : Nat} {S : Lg} {gs : List (List Int)} (i : LInv S gs) (h : sat E w (lgI p d b S R)) (hW : S.W.length ≤ 900000)
    (k : ∀ w', sat E w' (lgI p d b (checkS S) R) → K (.int .i64 0) w') : Calls prog 60 #[.pointer (some ⟨p, 0, none⟩)] w (Ret K) := by
  have hsz := i.sz; have hle := i.wf.le; have hfew := i.few
  refine c60 ?_
  unfold B60
  try simp only [↓opsA, opsB, if_true, if_false, ↓reduceIte]
  have h0 := h
  unfold lgI lcells at h
  refine ld_at h ?_
  try simp only [↓opsA, opsB, if_true, if_false, ↓reduceIte]
  unfold checkS at k
  by_cases hu : S.used = 0
  · rw [if_pos hu] at k
    simp only [hu, Int.natCast_zero, ↓opsA, opsB, if_true, if_false, ↓reduceIte]
    exact k w h0
  rw [if_neg hu] at k
  have hu2 : ¬ ((S.used : Nat) : Int) = 0 := by omega
  simp only [hu2, ↓opsA, opsB, if_true, if_false, ↓reduceIte]
  refine Touched_spec h0 (by omega) fun u w h => ?_
  clear h0
  obtain ⟨au, cu, rfl, hcu, hlu, _⟩ := osl_shape h
  try simp only [↓opsA, opsB, if_true, if_false, ↓reduceIte]
  have ht : (touched S).length ≤ 1024 := by unfold touched; rw [sortI_length, List.length_map]; exact hfew
  have hk := fun m => backP_keep ((touched S).take m) S
  refine lp_nat (fun q σ w => ∃ m : Nat, σ = [.int .i64 m] ∧ q = (touched S).length - m ∧ m ≤ (touched S).length ∧
    sat E w (osl 3 1 (.slice au (touched S).length cu) (touched S).length ((touched S).map iv) * lgI p d b (backP S ((touched S).take m)) R)) (touched S).length ⟨0, rfl, rfl, by omega, h⟩ ?_
  clear h
  rintro q σ w again ⟨m, rfl, rfl, hm, h⟩ hag
  try simp only [↓opsA, opsB, if_true, if_false, ↓reduceIte]
  refine cd_dec (fun hlt => ?_) (fun hge => ?_)
  · have hlt : m < (touched S).length := by omega
    obtain ⟨h1, h2, h3, h4, h5, h6⟩ := hk m
    have hx := i.has (List.getElem_mem hlt)
    obtain ⟨n, hn⟩ := Int.eq_ofNat_of_zero_le hx.a
    have hnp : n < S.pages := by have := hx.b; omega
    have hpl : S.place n ≤ S.size := by have := hx.c; rw [hn] at this; exact this
    have hpg : S.pages + S.size + 1 = S.L.length := by unfold Lg.pages; omega
    obtain ⟨v, hv⟩ : ∃ v, lookA S.a n = some v := lookA_of (by have hm := List.getElem_mem hlt; rw [hn] at hm; unfold touched at hm; rwa [sortI_mem] at hm)
    have hv0 := i.look hv
    have hpv : S.place n = v.toNat := by unfold Lg.place; rw [hv]
    generalize hT : backP S ((touched S).take m) = T at h h1 h2 h3 h4 h5 h6
    have hTW : T.W.length ≤ 950000 := by rw [h6, List.length_take]; omega
    obtain ⟨bu, ou, rfl, hbu⟩ := win_cell ((Rds.osl).win h.drop') (j := m) (by simpa using hlt)
    rw [o_index (by omega) (by omega)]
    simp only [Int.toNat_natCast, Nat.mul_one]
    refine ld_cell hbu ?_
    rw [List.getElem_map, hn]
    simp only [iv]
    unfold lgI lcells at h
    refine dr_sl h fun w h _ => ?_
    try simp only [↓opsA, opsB, if_true, if_false, ↓reduceIte]
    refine ld_at h ?_
    refine ld_at h ?_
    refine look1_ld h ?_
    rw [mpA_look, h4, hv]
    simp only [Option.map_some, Option.getD_some, iv]
    rw [← Int.toNat_of_nonneg hv0, ← hpv]
    have hlenT : S.place n < T.L.length := by rw [h5]; omega
    have hb256 : T.L[S.place n].length = 256 := by
      have := Wf.backs (l := (touched S).take m) i.wf (fun x hx => i.has (List.mem_of_mem_take hx)) (by omega)
      rw [hT] at this
      exact this.l _ (List.getElem_mem _)
    refine Read_spec h hlenT (by omega) fun rv w h => ?_
    refine st_at h ?_
    try simp only [↓opsA, opsB, if_true, if_false, ↓reduceIte]
    refine dr_sl h fun w h _ => ?_
    refine ld_at h ?_
    refine ld_at h ?_
    try simp only [↓opsA, opsB, if_true, if_false, ↓reduceIte]
    rw [i64_of (n := (T.size : Int) + 1) (by omega) (by omega), i64_of (by omega) (by omega), show (T.size : Int) + 1 + (n : Int) = ((S.size + 1 + n : Nat) : Int) by omega]
    rw [hb256] at h
    refine wr_spec h T (l := T.L[S.place n]) (by rw [h5]; omega) hb256 (by omega) Rds.own fun w h => ?_
    refine st_at h ?_
    rw [i64_of (by omega) (by omega)]
    refine hag ((touched S).length - (m + 1)) _ _ (by omega) ⟨m + 1, rfl, rfl, by omega, ?_⟩
    have e1 : backP S ((touched S).take (m + 1)) = wr T (S.size + 1 + n) T.L[S.place n] := by
      rw [List.take_succ_eq_append_getElem hlt, backP_snoc, hT, hn]
      unfold back1
      rw [h1, Int.toNat_natCast, place_of h4 h1, getD_of hlenT]
    rw [e1]
    unfold lgI lcells
    have h := (h.split (osl 5 1 rv 256 (T.L[S.place n].map bv))).drop
    exact h.perm (by
      show _ = osl 3 1 _ _ _ * (pts p (.cells (#[Value.pointer (some ⟨d, 0, none⟩), .int .i64 T.size, .int .i64 T.groups, .int .i64 T.used, .map (some b)]) 114 (0, 0)) * (dsk d (wr T (S.size + 1 + n) T.L[S.place n]).L (wr T (S.size + 1 + n) T.L[S.place n]).W * (omap b (mpA T.a) * R)))
      ac_rfl)
  · have : m = (touched S).length := by omega
    subst this
    rw [List.take_length] at h
    obtain ⟨h1, h2, h3, h4, h5, h6⟩ := backP_keep (touched S) S
    have h := h.drop
    unfold lgI lcells at h
    try simp only [↓opsA, opsB, if_true, if_false, ↓reduceIte]
    refine store_at h rfl (by simp) fun w h => ?_
    try simp only [↓opsA, opsB, if_true, if_false, ↓reduceIte]
    refine ld_at h ?_
    refine clear_sl h fun w h => ?_
    refine Head_spec (E := E) (p := p) (d := d) (b := b) (S := midC S) (R := R) ?_ (by show 0 < (backP S (touched S)).L.length; rw [h5]; omega) (by show (backP S (touched S)).W.length ≤ 1000000; rw [h6]; omega) fun w h => ?_
    · unfold lgI lcells
      exact h.perm (by
        show _ = pts p (.cells (#[Value.pointer (some ⟨d, 0, none⟩), .int .i64 (backP S (touched S)).size, .int .i64 (backP S (touched S)).groups, .int .i64 0, .map (some b)]) 114 (0, 0)) * (dsk d (backP S (touched S)).L (backP S (touched S)).W * (omap b [] * R))
        ac_rfl)
    · refine k w ?_
      have e : hdB (midC S).groups (midC S).used = hdB S.groups 0 := by
        show hdB (backP S (touched S)).groups 0 = _
        rw [h2]
      rw [e] at h
      exact h
end Go.Proofs.YtfaeklinhchidaaGreat

/-
  A log is opened from a disk.
-/
set_option linter.all false
set_option maxRecDepth 100000
namespace Go.Proofs.YtfaeklinhchidaaGreat
open Go Hold
variable {E : World0} {w : World} {H R X : HP} {K : Value → World → Prop}
/-- A part of a block is read. -/
theorem Rds.part {H : HP} {b e o m c : Nat} {xs ys : List Value} [s : Has H b (.cells xs.toArray e (0, 0))] (hc : m ≤ c) (hx : ∀ j v, ys[j]? = some v → xs[o + j]? = some v) : Rds H (.slice (some ⟨b, o, none⟩) m c) m ys := fun E w hs =>
  ⟨_, c, rfl, hc, .inr ⟨b, o, xs.toArray, e, (0, 0), rfl, s.get hs, fun j v hj => by simpa using hx j v hj⟩⟩
theorem be2_val {n : Nat} (h : n < 65536) : (UInt8.ofNat (n / 256 ^ 1)).toNat * 256 + (UInt8.ofNat (n / 256 ^ 0)).toNat = n := by
  simp only [UInt8.toNat_ofNat', Nat.pow_one, Nat.pow_zero, Nat.div_one]
  omega
theorem fm2_at : ∀ (g : List Int) (i j : Nat) (x : Int), g[i]? = some x → j < 2 → (g.flatMap fun n => be 2 n.toNat)[2 * i + j]? = (be 2 x.toNat)[j]?
  | [], i, j, x, h, hj => by simp at h
  | y :: g, 0, j, x, h, hj => by
    simp at h; subst h
    rw [List.flatMap_cons, List.getElem?_append_left (by rw [be_length]; omega)]
    congr 1; omega
  | y :: g, i + 1, j, x, h, hj => by
    rw [List.flatMap_cons, List.getElem?_append_right (by rw [be_length]; omega), be_length, show 2 * (i + 1) + j - 2 = 2 * i + j by omega]
    exact fm2_at g i j x (by simpa using h) hj
theorem idx_num {g : List Int} {i j : Nat} {x : Int} (h : g[i]? = some x) (hj : j < 2) : (idx g)[2 + 2 * i + j]? = some (UInt8.ofNat (x.toNat / 256 ^ (1 - j))) := by
  have hi := (List.getElem?_eq_some_iff.1 h).1
  unfold idx
  rw [List.append_assoc, List.getElem?_append_right (by rw [be_length]; omega), be_length, List.getElem?_append_left (by rw [fm2_length]; omega), show 2 + 2 * i + j - 2 = 2 * i + j by omega, fm2_at g i j x h hj, be_get, if_pos hj]
theorem idx_len {g : List Int} {j : Nat} (hj : j < 2) : (idx g)[j]? = some (UInt8.ofNat (g.length / 256 ^ (1 - j))) := by
  unfold idx
  rw [List.append_assoc, List.getElem?_append_left (by rw [be_length]; omega), be_get, if_pos hj]
theorem idx_rest {g : List Int} (h : g.length ≤ 100) : (idx g).drop (2 + 2 * g.length) = noughts (254 - 2 * g.length) := by
  unfold idx
  have : (be 2 g.length ++ g.flatMap fun n => be 2 n.toNat).length = 2 + 2 * g.length := by rw [List.length_append, be_length, fm2_length]
  rw [← this, List.drop_left]
theorem noughts_all (n : Nat) : ((noughts n).all fun x => decide (x = 0)) = true := by
  rw [List.all_eq_true]
  intro x hx
  rw [List.eq_of_mem_replicate hx]; rfl
theorem putN_snoc : ∀ (g : List Int) (a : List (Int × Int)) (u : Nat) (x : Int), putN a u (g ++ [x]) = putA (putN a u g) x (u + g.length : Nat)
  | [], a, u, x => rfl
  | y :: g, a, u, x => by
    simp only [List.cons_append, putN, List.length_cons]
    rw [putN_snoc g]
    congr 1; omega
theorem Group_spec {p d b : Nat} {S : Lg} (h : sat E w (lgI p d b S R)) {n : Nat} {g : List Int} (hs : S.size + 1 ≤ S.L.length) (hl : S.L.length ≤ 1024) (hg : Grp S.pages g) (hn : S.L[n]? = some (idx g)) (hu : n + g.length ≤ S.used) (hu2 : S.used ≤ 1024)
    (k : ∀ w', sat E w' (lgI p d b { S with a := putN S.a (n + 1) g } R) → K (.int .i64 g.length) w') : Calls prog 45 #[.pointer (some ⟨p, 0, none⟩), .int .i64 n] w (Ret K) := by
  obtain ⟨hnl, hne⟩ := List.getElem?_eq_some_iff.1 hn
  have hg1 := hg.h1; have hg2 := hg.h2
  have hpg : S.pages ≤ 1024 := by unfold Lg.pages; omega
  refine c45 ?_
  unfold B45
  try simp only [↓opsA, opsB, if_true, if_false, ↓reduceIte]
  unfold lgI lcells at h
  refine ld_at h ?_
  have hlen := idx_length hg2
  refine Read_spec h hnl (by rw [hne, hlen]; omega) fun v w h => ?_
  rw [hne, hlen] at h
  try simp only [↓opsA, opsB, if_true, if_false, ↓reduceIte]
  obtain ⟨q, c, sp, rfl, hql, hc, hP, hcl⟩ := osl_open h (by omega)
  have hat : ∀ j x, (idx g)[j]? = some x → ((idx g).map bv ++ sp)[j]? = some (bv x) := fun j x hj => by
    have := (List.getElem?_eq_some_iff.1 hj).1
    rw [List.getElem?_append_left (by rw [List.length_map]; omega), List.getElem?_map, hj]; rfl
  refine two_spec hP (m := 256) (o := 0) (by omega) (hat 0 _ (idx_len (by omega))) (hat 1 _ (idx_len (by omega))) fun w hP => ?_
  rw [be2_val (by omega)]
  have e1 : ¬ (g.length : Int) < 1 := by omega
  have e2 : ¬ (100 : Int) < (g.length : Int) := by omega
  simp only [e1, e2, ↓opsA, opsB, if_true, if_false, ↓reduceIte]
  rw [i64_of (by omega) (by omega)]
  refine ld_at hP ?_
  have e3 : ¬ (S.used : Int) < (n : Int) + (g.length : Int) := by omega
  simp only [e3, ↓opsA, opsB, if_true, if_false, ↓reduceIte]
  rw [i64_of (n := 2 * (g.length : Int)) (by omega) (by omega), i64_of (by omega) (by omega), show (2 : Int) + 2 * (g.length : Int) = ((2 + 2 * g.length : Nat) : Int) by omega, o_slice_l (by omega) (by omega)]
  simp only [Int.toNat_natCast]
  rw [cutA_some (by omega), Nat.zero_add, Nat.mul_one]
  have hrest := idx_rest hg2
  have hrl : ((idx g).drop (2 + 2 * g.length)).length = 256 - (2 + 2 * g.length) := by rw [List.length_drop, hlen]
  refine zeros_spec hP (l := (idx g).drop (2 + 2 * g.length)) (by
    rw [hrl]
    refine Rds.part (by omega) fun j v hj => ?_
    rw [List.getElem?_map] at hj
    obtain ⟨x, hx, rfl⟩ := Option.map_eq_some_iff.1 hj
    rw [List.getElem?_drop] at hx
    exact hat _ _ hx) (by rw [hrl]; omega) fun w hP => ?_
  rw [hrest, noughts_all]
  try simp only [↓opsA, opsB, if_true, if_false, ↓reduceIte]
  refine lp_nat (fun r σ w => ∃ i : Nat, σ = [.int .i64 (if i = 0 then -1 else g.getD (i - 1) 0), .int .i64 i] ∧ r = g.length - i ∧ i ≤ g.length ∧
    sat E w (pts q (.cells ((idx g).map bv ++ sp).toArray 5 (0, 0)) * lgI p d b { S with a := putN S.a (n + 1) (g.take i) } R)) g.length ⟨0, rfl, rfl, by omega, ?_⟩ ?_
  · unfold lgI lcells
    exact hP.perm (by
      show _ = pts q _ * (pts p (.cells (#[Value.pointer (some ⟨d, 0, none⟩), .int .i64 S.size, .int .i64 S.groups, .int .i64 S.used, .map (some b)]) 114 (0, 0)) * (dsk d S.L S.W * (omap b (mpA S.a) * R)))
      ac_rfl)
  clear hP h hcl
  rintro r σ w again ⟨i, rfl, rfl, hi, hP⟩ hag
  try simp only [↓opsA, opsB, if_true, if_false, ↓reduceIte]
  refine cd_dec (fun hlt => ?_) (fun hge => ?_)
  · have hlt : i < g.length := by omega
    have hx := hg.all _ (List.getElem_mem hlt)
    have hgi : g[i]? = some g[i] := List.getElem?_eq_getElem hlt
    rw [i64_of (n := 2 * (i : Int)) (by omega) (by omega), i64_of (by omega) (by omega), show (2 : Int) + 2 * (i : Int) = ((2 + 2 * i : Nat) : Int) by omega, o_slice_l (by omega) (by omega)]
    simp only [Int.toNat_natCast]
    rw [cutA_some (by omega), Nat.zero_add, Nat.mul_one]
    refine two_spec hP (o := 2 + 2 * i) (by omega) (hat _ _ (by have := idx_num (j := 0) hgi (by omega); simpa using this)) (hat _ _ (idx_num hgi (by omega))) fun w hP => ?_
    rw [be2_val (by omega)]
    have hlast : ¬ ((g[i].toNat : Nat) : Int) ≤ (if i = 0 then -1 else g.getD (i - 1) 0) := by
      by_cases h0 : i = 0
      · rw [if_pos h0]; omega
      · rw [if_neg h0, List.getD_eq_getElem?_getD, List.getElem?_eq_getElem (by omega)]
        have := List.pairwise_iff_getElem.1 hg.rise (i - 1) i (by omega) hlt (by omega)
        simp only [Option.getD_some]
        omega
    simp only [hlast, ↓opsA, opsB, if_true, if_false, ↓reduceIte]
    have hP := hP.perm (star_comm _ _)
    have hP : sat E w (lgI p d b { S with a := putN S.a (n + 1) (g.take i) } (R * pts q (.cells ((idx g).map bv ++ sp).toArray 5 (0, 0)))) := by
      unfold lgI at hP ⊢
      exact hP.perm (by ac_rfl)
    refine Pages_spec hP hs hl fun w hP => ?_
    have e4 : ¬ (({ S with a := putN S.a (n + 1) (g.take i) } : Lg).pages : Int) ≤ ((g[i].toNat : Nat) : Int) := by
      show ¬ (S.pages : Int) ≤ _
      omega
    simp only [e4, ↓opsA, opsB, if_true, if_false, ↓reduceIte]
    unfold lgI lcells at hP
    refine ld_at hP ?_
    rw [i64_of (n := (n : Int) + 1) (by omega) (by omega), i64_of (n := (n : Int) + 1 + i) (by omega) (by omega)]
    refine update_sl hP fun w hP => ?_
    try simp only [↓opsA, opsB, if_true, if_false, ↓reduceIte]
    rw [i64_of (by omega) (by omega)]
    refine hag (g.length - (i + 1)) _ _ (by omega) ⟨i + 1, ?_, rfl, by omega, ?_⟩
    · rw [if_neg (by omega), Nat.add_sub_cancel, List.getD_eq_getElem?_getD, hgi, Option.getD_some, Int.toNat_of_nonneg hx.1]; rfl
    · have e5 : putM (mpA (putN S.a (n + 1) (g.take i))) ((g[i].toNat : Nat) : Int) (.int .i64 ((n : Int) + 1 + i)) = mpA (putN S.a (n + 1) (g.take (i + 1))) := by
        rw [List.take_succ_eq_append_getElem hlt, putN_snoc, ← mpA_put, Int.toNat_of_nonneg hx.1, List.length_take, Nat.min_eq_left (by omega)]
        congr 2
      rw [e5] at hP
      unfold lgI lcells
      exact hP.perm (by
        show _ = pts q _ * (pts p (.cells (#[Value.pointer (some ⟨d, 0, none⟩), .int .i64 S.size, .int .i64 S.groups, .int .i64 S.used, .map (some b)]) 114 (0, 0)) * (dsk d S.L S.W * (omap b (mpA (putN S.a (n + 1) (g.take (i + 1)))) * R)))
        ac_rfl)
  · have : i = g.length := by omega
    subst this
    rw [List.take_length] at hP
    exact k w hP.drop
theorem hd_at (g u j : Nat) : (hdB g u)[j]? = if j < 2 then [72, 70][j]? else if j < 10 then some (UInt8.ofNat (g / 256 ^ (9 - j))) else if j < 12 then some (UInt8.ofNat (u / 256 ^ (11 - j))) else if j < 256 then some 0 else none := by
  unfold hdB
  by_cases h1 : j < 2
  · rw [if_pos h1, List.append_assoc, List.append_assoc, List.getElem?_append_left (by simpa using h1)]
  rw [if_neg h1]
  by_cases h2 : j < 10
  · rw [if_pos h2, List.append_assoc, List.getElem?_append_left (by simp [be_length]; omega), List.getElem?_append_right (by simp; omega), be_get]
    simp only [List.length_cons, List.length_nil]
    rw [if_pos (by omega), show 8 - 1 - (j - (0 + 1 + 1)) = 9 - j by omega]
  rw [if_neg h2]
  by_cases h3 : j < 12
  · rw [if_pos h3, List.getElem?_append_left (by simp [be_length]; omega), List.getElem?_append_right (by simp [be_length]; omega), be_get]
    simp only [List.length_append, be_length, List.length_cons, List.length_nil]
    rw [if_pos (by omega), show 2 - 1 - (j - (0 + 1 + 1 + 8)) = 11 - j by omega]
  rw [if_neg h3, List.getElem?_append_right (by simp [be_length]; omega)]
  simp only [List.length_append, be_length, List.length_cons, List.length_nil, noughts, List.getElem?_replicate]
  by_cases h4 : j < 256
  · rw [if_pos h4, if_pos (by omega)]
  · rw [if_neg h4, if_neg (by omega)]
theorem hd_nz (g u : Nat) : ((hdB g u).all fun x => decide (x = 0)) = false := by
  rw [Bool.eq_false_iff]
  intro h
  have := List.all_eq_true.1 h 72 (by simp [hdB])
  exact absurd this (by decide)
theorem zeros_all : (zeros.all fun x => decide (x = 0)) = true := noughts_all 256
/-- A log's own disk is opened. -/
theorem Open_spec {S : Lg} {gs : List (List Int)} (i : LInv S gs) (hW0 : S.W = []) (hg : S.groups < 2 ^ 62) {dd : Nat} {W : List (Int × Bs)} (h : sat E w H) [s : DskS H dd S.L W R] (wf : Wf S.L W)
    (k : ∀ p d b w', sat E w' (lgI p d b S H) → K (.tuple #[.pointer (some ⟨p, 0, none⟩), .int .i64 0]) w') : Calls prog 15 #[.pointer (some ⟨dd, 0, none⟩), .int .i64 S.size] w (Ret K) := by
  have hsz := i.sz; have hs2 := i.s2; have hle := i.wf.le; have hule := i.ule
  have hlen0 : ∀ l ∈ S.L, l.length = 256 := i.wf.l
  refine c15 ?_
  unfold B15
  have e1 : ¬ (S.size : Int) < 2 := by omega
  simp only [e1, ↓opsA, opsB, if_true, if_false, ↓reduceIte]
  refine Blocks_spec h ?_
  try simp only [↓opsA, opsB, if_true, if_false, ↓reduceIte]
  rw [i64_of (by omega) (by omega)]
  have e2 : ¬ (S.L.length : Int) - 2 < (S.size : Int) := by omega
  simp only [e2, ↓opsA, opsB, if_true, if_false, ↓reduceIte]
  have h := (h.dsks dd)
  refine Image_spec h wf fun v vs w h => ?_
  refine Load_spec h (rdd_of2 h vs S.L) (fun e w hb _ => ?_) (fun d w _ h => ?_)
  · unfold bad at hb
    rw [if_neg (by have := i.wf.pos; omega), if_pos (List.all_eq_true.2 fun l hl => by simpa using hlen0 l hl)] at hb
    cases hb
  have h : sat E w (dsk d S.L [] * H) := by
    have h := (h.perm (show _ = osl 22 1 v S.L.length vs * (pers (immAll vs S.L) * (dsk d S.L [] * (dsk dd S.L W * R))) by ac_rfl)).drop.drop
    rw [s.eq]; exact h
  try simp only [↓opsA, opsB, if_true, if_false, ↓reduceIte]
  refine pvv_of (v := .agg #[.pointer (some ⟨d, 0, none⟩)]) (fun _ => by kernel_rfl) ?_
  refine make_map h fun b w h => ?_
  refine pvv_of (v := .agg #[.pointer (some ⟨d, 0, none⟩), .int .i64 S.size, .int .i64 0, .int .i64 0, .map (some b)]) (fun _ => by kernel_rfl) ?_
  refine box_sl h fun p w h => ?_
  have h : sat E w (pts p (.cells [Value.pointer (some ⟨d, 0, none⟩), .int .i64 S.size, .int .i64 0, .int .i64 0, .map (some b)].toArray 114 (0, 0)) * (omap b [] * (dsk d S.L [] * H))) := h
  have hpos : 0 < S.L.length := by omega
  have h256 : S.L[0].length = 256 := hlen0 _ (List.getElem_mem hpos)
  refine Read_spec (n := 0) h hpos (by omega) fun hv w h => ?_
  try simp only [↓opsA, opsB, if_true, if_false, ↓reduceIte]
  refine zeros_spec h (l := S.L[0]) Rds.own (by omega) fun w h => ?_
  have hget : S.L[0]? = some S.L[0] := List.getElem?_eq_getElem hpos
  rcases i.rep.head with ⟨hz, hg0, hgs⟩ | hz
  · rw [hget, Option.some.injEq] at hz
    rw [hz, zeros_all]
    try simp only [↓opsA, opsB, if_true, if_false, ↓reduceIte]
    have hu0 : S.used = 0 := by rw [i.ue, hgs]; rfl
    have ha0 : S.a = [] := i.empty_iff.1 hu0
    refine k p d b w ?_
    unfold lgI lcells
    rw [hg0, hu0, ha0, hW0]
    exact h.drop.perm (by
      show _ = pts p (.cells (#[Value.pointer (some ⟨d, 0, none⟩), .int .i64 S.size, .int .i64 0, .int .i64 0, .map (some b)]) 114 (0, 0)) * (dsk d S.L [] * (omap b [] * H))
      ac_rfl)
  · rw [hget, Option.some.injEq] at hz
    rw [hz, hd_nz]
    try simp only [↓opsA, opsB, if_true, if_false, ↓reduceIte]
    rw [hz, hdB_length] at h
    obtain ⟨q, c, sp, rfl, hql, hc, hP, hcl⟩ := osl_open h (by omega)
    clear hcl
    have hat : ∀ j x, (hdB S.groups S.used)[j]? = some x → ((hdB S.groups S.used).map bv ++ sp)[j]? = some (bv x) := fun j x hj => by
      have := (List.getElem?_eq_some_iff.1 hj).1
      rw [List.getElem?_append_left (by rw [List.length_map]; omega), List.getElem?_map, hj]; rfl
    refine dr_sl hP fun w hP _ => ?_
    rw [o_slice_lh (by omega) (by omega) (by omega), cutA_some (by omega)]
    rw [o_slice_l (by omega) (by omega), cutA_some (by omega)]
    simp only [show (2 : Int).toNat * 1 = 2 from rfl, show (10 : Int).toNat * 1 = 10 from rfl, show (10 : Int).toNat = 10 from rfl, show (2 : Int).toNat = 2 from rfl, Nat.zero_add]
    refine get_spec hP (n := S.groups) (fun j hj => hat _ _ ?_) hg fun w hP => ?_
    · rw [hd_at, if_neg (by omega), if_pos (by omega), show 9 - (2 + j) = 7 - j by omega]
    refine two_spec hP (by omega) (hat 10 _ (by rw [hd_at, if_neg (by omega), if_neg (by omega), if_pos (by omega)])) (hat 11 _ (by rw [hd_at, if_neg (by omega), if_neg (by omega), if_pos (by omega)])) fun w hP => ?_
    rw [be2_val (by omega)]
    try simp only [↓opsA, opsB, if_true, if_false, ↓reduceIte]
    refine store_at hP rfl (by simp) fun w hP => ?_
    try simp only [↓opsA, opsB, if_true, if_false, ↓reduceIte]
    refine store_at hP rfl (by simp) fun w hP => ?_
    rw [o_index (by omega) (by omega)]
    simp only [↓opsA, opsB, if_true, if_false, ↓reduceIte, Int.toNat_zero, Nat.zero_mul, Nat.add_zero]
    refine ld_in hP (hat 0 72 (by rw [hd_at]; rfl)) ?_
    simp only [show bv 72 = Value.int .u8 72 from rfl, ↓opsA, opsB, if_true, if_false, ↓reduceIte]
    rw [o_index (by omega) (by omega)]
    simp only [show (1 : Int).toNat * 1 = 1 from rfl, Nat.zero_add]
    refine ld_in hP (hat 1 70 (by rw [hd_at]; rfl)) ?_
    simp only [show bv 70 = Value.int .u8 70 from rfl, ↓opsA, opsB, if_true, if_false, ↓reduceIte]
    refine ld_at hP ?_
    have e4 : ¬ (S.groups : Int) < 0 := by omega
    simp only [e4, ↓opsA, opsB, if_true, if_false, ↓reduceIte]
    rw [o_slice_l (by omega) (by omega), cutA_some (by omega)]
    simp only [show (12 : Int).toNat * 1 = 12 from rfl, show (12 : Int).toNat = 12 from rfl, Nat.zero_add]
    have hdl : ((hdB S.groups S.used).drop 12).length = 244 := by rw [List.length_drop, hdB_length]
    refine zeros_spec hP (l := (hdB S.groups S.used).drop 12) (by
      rw [hdl]
      refine Rds.part (by omega) fun j v hj => ?_
      rw [List.getElem?_map] at hj
      obtain ⟨x, hx, rfl⟩ := Option.map_eq_some_iff.1 hj
      rw [List.getElem?_drop] at hx
      exact hat _ _ hx) (by rw [hdl]; omega) fun w hP => ?_
    have hall : (((hdB S.groups S.used).drop 12).all fun x => decide (x = 0)) = true := by
      rw [List.all_eq_true]
      intro x hx
      obtain ⟨j, hj, rfl⟩ := List.mem_iff_getElem.1 hx
      have := List.getElem?_eq_getElem hj
      rw [List.getElem?_drop, hd_at, if_neg (by omega), if_neg (by omega), if_neg (by omega), if_pos (by rw [hdl] at hj; omega)] at this
      simpa using (Option.some.inj this).symm
    rw [hall]
    try simp only [↓opsA, opsB, if_true, if_false, ↓reduceIte]
    refine ld_at hP ?_
    have e5 : ¬ (S.size : Int) < (S.used : Int) := by omega
    simp only [e5, ↓opsA, opsB, if_true, if_false, ↓reduceIte]
    have hP : sat E w (lgI p d b ⟨S.L, [], S.size, S.groups, S.used, []⟩ H) := by
      have hP := (hP.split (pts q (.cells ((hdB S.groups S.used).map bv ++ sp).toArray 5 (0, 0)))).drop
      unfold lgI lcells
      exact hP.perm (by
        show _ = pts p (.cells (#[Value.pointer (some ⟨d, 0, none⟩), .int .i64 S.size, .int .i64 S.groups, .int .i64 S.used, .map (some b)]) 114 (0, 0)) * (dsk d S.L [] * (omap b [] * H))
        ac_rfl)
    have hu := i.ue
    have hse : ∀ a, ({ L := S.L, W := [], size := S.size, groups := S.groups, used := S.used, a := a } : Lg).pages = S.pages := fun a => rfl
    refine lp_nat (fun r σ w => ∃ m : Nat, σ = [.int .i64 ((endOf (gs.take m) + 1 : Nat) : Int)] ∧ r = gs.length - m ∧ m ≤ gs.length ∧
      sat E w (lgI p d b ⟨S.L, [], S.size, S.groups, S.used, atFrom [] 0 (gs.take m)⟩ H)) gs.length ⟨0, rfl, rfl, by omega, hP⟩ ?_
    clear hP h
    rintro r σ w again ⟨m, rfl, rfl, hm, h⟩ hag
    try simp only [↓opsA, opsB, if_true, if_false, ↓reduceIte]
    have h0 := h
    unfold lgI lcells at h
    refine ld_at h ?_
    try simp only [↓opsA, opsB, if_true, if_false, ↓reduceIte]
    refine cd_dec (fun hlt => ?_) (fun hge => ?_)
    · have hlt : m < gs.length := by
        rcases Nat.lt_or_ge m gs.length with hh | hh
        · exact hh
        · rw [List.take_of_length_le hh] at hlt; omega
      have hgm : gs[m]? = some gs[m] := List.getElem?_eq_getElem hlt
      have hend := endOf_take_le gs hgm
      have hgg := i.grp _ (List.getElem_mem hlt)
      refine Group_spec h0 (n := endOf (gs.take m) + 1) (g := gs[m]) (by show S.size + 1 ≤ S.L.length; omega) (by show S.L.length ≤ 1024; omega) hgg (i.rep.idx m _ hgm) (by show _ ≤ S.used; omega) (by show S.used ≤ 1024; omega) fun w h => ?_
      have e6 : ¬ ((gs[m].length : Nat) : Int) = 0 := by have := hgg.h1; omega
      simp only [e6, ↓opsA, opsB, if_true, if_false, ↓reduceIte]
      have hg2 := hgg.h2
      rw [i64_of (n := (gs[m].length : Int) + 1) (by omega) (by omega), i64_of (by omega) (by omega)]
      have e7 : gs.take (m + 1) = gs.take m ++ [gs[m]] := List.take_succ_eq_append_getElem hlt
      refine hag (gs.length - (m + 1)) _ _ (by omega) ⟨m + 1, ?_, rfl, by omega, ?_⟩
      · rw [e7, endOf_snoc]
        congr 2; omega
      · rw [e7, atFrom_snoc, Nat.zero_add]
        exact h
    · have : m = gs.length := by
        rcases Nat.lt_or_ge m gs.length with hh | hh
        · have := endOf_take_le gs (List.getElem?_eq_getElem hh)
          omega
        · omega
      subst this
      rw [List.take_length, ← i.a] at h0
      refine k p d b w ?_
      have : S = ⟨S.L, [], S.size, S.groups, S.used, S.a⟩ := by rw [← hW0]
      rw [this]
      exact h0
end Go.Proofs.YtfaeklinhchidaaGreat

/-
  slices.Sorted(maps.Keys(m)): the keys of a map (U), rising.
-/
set_option linter.all false
set_option maxRecDepth 100000
namespace Go.Proofs.YtfaeklinhchidaaGreat.KU
open Go Hold
variable {E : World0} {w : World} {H R : HP} {K : Value → World → Prop}
def boxM (mb b : Nat) : HP := pts mb (.cells #[.map (some b)] 117 (0, 0))
instance hasM (mb b : Nat) : Has (boxM mb b) mb (.cells [Value.map (some b)].toArray 117 (0, 0)) := ⟨fun h => (h.perm (star_emp _).symm).pts_get⟩
theorem erase_perm {α : Type} {l : List α} {j : Nat} {x : α} (h : l[j]? = some x) : (x :: l.eraseIdx j).Perm l := by
  induction l generalizing j with
  | nil => simp at h
  | cons y l ih =>
    cases j with
    | zero => simp at h; subst h; exact List.Perm.refl _
    | succ j =>
      simp only [List.getElem?_cons_succ] at h
      rw [List.eraseIdx_cons_succ]
      exact (List.Perm.swap y x _).trans ((ih h).cons y)
theorem KeysIt_spec {b mb : Nat} {l : List (Int × Value)} {y : Value} (G : List Int → HP) (h : sat E w (G [] * (omap b l * (boxM mb b * H))))
    (hy : ∀ (ss : List Int) (x : Int) (F : HP) (w : World) (K' : Value → World → Prop), ss.length < l.length → sat E w (G ss * F) → (∀ w', sat E w' (G (ss ++ [x]) * F) → K' (.bool true) w') → ef prog (oCall y #[.int .i64 x]) w K')
    (k : ∀ (ss : List Int) w', ss.Perm (l.map (·.1)) → sat E w' (G ss * (omap b l * (boxM mb b * H))) → K (.tuple #[]) w') : Calls prog 117 #[y, .pointer (some ⟨mb, 0, none⟩)] w (Ret K) := by
  refine c117 ?_
  unfold B117
  refine ld_in (b := mb) (v := .map (some b)) h rfl ?_
  refine range_sl h fun i w h => ?_
  refine lp_nat (fun q σ w => ∃ (rest : List (Int × Value)) (ss : List Int), σ = [] ∧ q = rest.length ∧ (ss ++ rest.map (·.1)).Perm (l.map (·.1)) ∧ sat E w (omit_ i b l rest * (G ss * (boxM mb b * H)))) l.length ⟨l, [], rfl, rfl, List.Perm.refl _, h⟩ ?_
  clear h
  rintro q σ w again ⟨rest, ss, rfl, rfl, hp, h⟩ hag
  rw [fin_nil]
  refine next_sl (i := i) (b := b) (l := l) (rest := rest) h (fun h0 => ?_) (fun j x w hj hen h => ?_)
  · subst h0
    rw [o_extract, cd_false]
    simp only [List.map_nil, List.append_nil] at hp
    exact k ss w hp ((omit_close h).perm (star_left_comm _ _ _))
  · rw [o_extract, cd_true]
    refine efv_of hen ?_
    rw [o_extract]
    have hlt := (List.getElem?_eq_some_iff.1 hj).1
    have hl := hp.length_eq
    simp only [List.length_append, List.length_map] at hl
    have h := h.perm (show _ = G ss * (omit_ i b l (rest.eraseIdx j) * (boxM mb b * H)) by ac_rfl)
    refine hy ss x.1 _ w _ (by omega) h fun w h => ?_
    rw [o_not, Bool.not_true, cd_false]
    refine hag (rest.eraseIdx j).length _ _ (by rw [List.length_eraseIdx, if_pos hlt]; omega) ⟨rest.eraseIdx j, ss ++ [x.1], rfl, rfl, ?_, h.perm (by ac_rfl)⟩
    refine List.Perm.trans ?_ hp
    rw [List.append_assoc]
    refine List.Perm.append_left ss ?_
    exact (erase_perm hj).map (·.1)
theorem AppendSeq_spec {b mb : Nat} {l : List (Int × Value)} (hl : l.length ≤ 1000000) (h : sat E w (omap b l * (boxM mb b * H)))
    (k : ∀ (u : Value) (ss : List Int) w', ss.Perm (l.map (·.1)) → sat E w' (osl 3 1 u ss.length (ss.map iv) * (omap b l * (boxM mb b * H))) → K u w') :
    Calls prog 136 #[.slice none 0 0, .func (.func 117) #[] #[.pointer (some ⟨mb, 0, none⟩)]] w (Ret K) := by
  refine c136 ?_
  unfold B136
  refine box_sl h fun sb w h => ?_
  have h : sat E w (pts sb (.cells [Value.slice none 0 0].toArray 29 (0, 0)) * (omap b l * (boxM mb b * H))) := h
  refine rng_body h Tryz.func117 (by kernel_rfl) (by kernel_rfl) fun rec D D1 w h hround => ?_
  have h : sat E w (ex (fun v : Value => pts D1 (rec .ready none) * (pts sb (.cells [v].toArray 29 (0, 0)) * osl 3 1 v ([] : List Int).length (([] : List Int).map iv))) * (omap b l * (boxM mb b * (pts D (.deferred (some [])) * H)))) := by
    refine sat_ex_star.2 ⟨.slice none 0 0, ?_⟩
    have h := osl_nil h 3 1
    exact h.perm (by ac_rfl)
  refine KeysIt_spec (fun ss => ex fun v : Value => pts D1 (rec .ready none) * (pts sb (.cells [v].toArray 29 (0, 0)) * osl 3 1 v ss.length (ss.map iv))) h ?_ ?_
  · clear h
    intro ss x F w K' hlt h ht
    obtain ⟨v, h⟩ := sat_ex_star.1 h
    refine hround [.int .i64 x] w K' rfl h.has ?_
    rw [pop_cons, fin_nil]
    refine ⟨h.has, ?_⟩
    have h := (h.own D1).set (rec .busy none)
    refine ld_in (b := sb) (v := v) h rfl ?_
    refine push_sl (v := v) h rfl rfl (by omega) (by omega) fun v2 w h => ?_
    have hone : v2.oneCell' = true := by
      obtain ⟨_, _, rfl, _⟩ := osl_shape h
      rfl
    refine store_sl (b := sb) h hone (by simp) fun w h => ?_
    have h : sat E w (pts sb (.cells [v2].toArray 29 (0, 0)) * _) := h
    refine ⟨h.has, ht _ ?_⟩
    have h := (h.own D1).set (rec .ready none)
    refine sat_ex_star.2 ⟨v2, ?_⟩
    rw [List.length_append, List.map_append]
    exact h.perm (by simp only [List.map_cons, List.map_nil, List.length_singleton, iv]; ac_rfl)
  · clear h
    intro ss w hp h
    obtain ⟨v, h⟩ := sat_ex_star.1 h
    refine ⟨.ready, none, h.has, by simp, ?_⟩
    have h := (h.own D1).set (rec .exhausted none)
    simp only [jump]
    refine ld_in (b := sb) (v := v) h rfl ?_
    refine ⟨h.has, ?_⟩
    have h := (h.own D).set (.deferred none)
    refine k v ss _ hp ?_
    have h := h.perm (show _ = pts D (.deferred none) * (pts D1 (rec .exhausted none) * (pts sb (.cells [v].toArray 29 (0, 0)) * (osl 3 1 v ss.length (ss.map iv) * (omap b l * (boxM mb b * H))))) by ac_rfl)
    exact h.drop.drop.drop
theorem Sort_spec {v : Value} {zs : List Int} (h : sat E w (osl 3 1 v zs.length (zs.map iv) * R)) (hl : zs.length ≤ 1000000)
    (k : ∀ w', sat E w' (osl 3 1 v zs.length ((zs.mergeSort fun x y => decide (x ≤ y)).map iv) * R) → K (.tuple #[]) w') : Calls prog 29 #[v] w (Ret K) :=
  sort_sl (P := prog) (f := 29) (fun blk off cap zs w hH hb hz => AnyM.slices_Sort_int sortL blk off cap zs w hH hb hz) (fun p cap w => AnyM.slices_Sort_int_none sortL p cap w) h hl k
/-- The keys of a map, rising. -/
theorem SortedKeys_spec {b : Nat} {l : List (Int × Value)} (hl : l.length ≤ 1000000) (h : sat E w (omap b l * H))
    (k : ∀ (u : Value) (ss : List Int) w', ss.Perm (l.map (·.1)) → ss.Pairwise (· ≤ ·) → sat E w' (osl 3 1 u ss.length (ss.map iv) * (omap b l * H)) → K u w') :
    Calls prog 77 #[.map (some b)] w (Ret fun t w => Calls prog 76 #[t] w (Ret K)) := by
  refine c77 ?_
  unfold B77
  refine box_sl h fun mb w h => ?_
  have h : sat E w (boxM mb b * (omap b l * H)) := h
  refine pvv_of (v := .func (.func 117) #[] #[.pointer (some ⟨mb, 0, none⟩)]) (fun _ => rfl) ?_
  refine c76 ?_
  unfold B76
  refine c116 ?_
  unfold B116
  refine AppendSeq_spec (H := H) hl (h.perm (star_left_comm _ _ _)) fun u ss w hp h => ?_
  have hsl : ss.length ≤ 1000000 := by
    have := hp.length_eq
    simp only [List.length_map] at this
    omega
  refine Sort_spec h hsl fun w h => ?_
  have hpm := List.mergeSort_perm ss fun x y => decide (x ≤ y)
  refine k u (ss.mergeSort fun x y => decide (x ≤ y)) w (hpm.trans hp) ?_ ?_
  · have := List.pairwise_mergeSort (le := fun x y : Int => decide (x ≤ y)) (by intro a b c; simp; omega) (by intro a b; simp; omega) ss
    exact this.imp (by intro a b h; simpa using h)
  · rw [List.length_mergeSort]
    have h := h.perm (show _ = boxM mb b * (osl 3 1 u ss.length ((ss.mergeSort fun x y => decide (x ≤ y)).map iv) * (omap b l * H)) by ac_rfl)
    exact h.drop
end Go.Proofs.YtfaeklinhchidaaGreat.KU

/-
  A group of pages is committed.
-/
set_option linter.all false
set_option maxRecDepth 100000
namespace Go.Proofs.YtfaeklinhchidaaGreat
open Go Hold
variable {E : World0} {w : World} {H R X : HP} {K : Value → World → Prop}
/-- Pages in a slice: their numbers, and slices of bytes. -/
structure RdP (R : HP) (v : Value) (qs : List (Int × Value)) (ps : List (Int × Bs)) : Prop where
  rd : Rds R v ps.length (wcells qs)
  num : qs.map (·.1) = ps.map (·.1)
  row : ∀ (i : Nat) (q : Int × Value) (p : Int × Bs), qs[i]? = some q → ps[i]? = some p → Rds R q.2 p.2.length (p.2.map bv)
theorem RdP.len {R : HP} {v : Value} {qs : List (Int × Value)} {ps : List (Int × Bs)} (h : RdP R v qs ps) : qs.length = ps.length := by
  have := congrArg List.length h.num; simpa using this
theorem RdP.at_ {R : HP} {v : Value} {qs : List (Int × Value)} {ps : List (Int × Bs)} (h : RdP R v qs ps) {i : Nat} (hi : i < ps.length) : ∃ q, qs[i]? = some q ∧ q.1 = ps[i].1 ∧ Rds R q.2 ps[i].2.length (ps[i].2.map bv) := by
  have hl := h.len
  refine ⟨qs[i], List.getElem?_eq_getElem (by omega), ?_, h.row i _ _ (List.getElem?_eq_getElem (by omega)) (List.getElem?_eq_getElem hi)⟩
  have := congrArg (fun l => l[i]?) h.num
  simp only [List.getElem?_map, List.getElem?_eq_getElem hi, List.getElem?_eq_getElem (show i < qs.length by omega), Option.map_some, Option.some.injEq] at this
  exact this
theorem wcells_el {qs : List (Int × Value)} {i : Nat} {q : Int × Value} (h : qs[i]? = some q) : ((wcells qs).drop (i * 2)).take 2 = [.int .i64 q.1, q.2] := by
  rw [← wcells_drop]
  obtain ⟨hi, rfl⟩ := List.getElem?_eq_some_iff.1 h
  rw [List.drop_eq_getElem_cons hi]
  rfl
theorem Out_spec {p d b l0 : Nat} {S : Lg} (h : sat E w (lgI p d b S (pts l0 (.cells [Value.pointer (some ⟨p, 0, none⟩)].toArray 52 (0, 0)) * R))) (hs : S.size + 1 ≤ S.L.length) (hl : S.L.length ≤ 1024) {x : Int × Bs} {u : Value}
    (k : ∀ w', sat E w' (lgI p d b S (pts l0 (.cells [Value.pointer (some ⟨p, 0, none⟩)].toArray 52 (0, 0)) * R)) → K (.bool (rangeP S x)) w') :
    Calls prog 91 #[.agg [Value.int .i64 x.1, u].toArray, .pointer (some ⟨l0, 0, none⟩)] w (Ret K) := by
  refine c91 ?_
  unfold B91
  refine box_sl h fun c w h => ?_
  have h : sat E w (pts c (.cells [Value.int .i64 x.1, u].toArray 136 (0, 0)) * lgI p d b S (pts l0 (.cells [Value.pointer (some ⟨p, 0, none⟩)].toArray 52 (0, 0)) * R)) := h
  refine dr_sl h fun w h _ => ?_
  try simp only [↓opsA, opsB, if_true, if_false, ↓reduceIte]
  refine ld_at h ?_
  try simp only [↓opsA, opsB, if_true, if_false, ↓reduceIte]
  unfold rangeP at k
  by_cases h1 : x.1 < 0
  · simp only [h1, ↓opsA, opsB, if_true, if_false, ↓reduceIte]
    have := k w h.drop
    simpa [h1] using this
  · simp only [h1, ↓opsA, opsB, if_true, if_false, ↓reduceIte]
    refine ld_at h ?_
    refine ld_at h ?_
    have h := lg_in h
    refine Pages_spec h hs hl fun w h => ?_
    have h := lg_out h
    refine st_at h ?_
    refine st_at h ?_
    try simp only [↓opsA, opsB, if_true, if_false, ↓reduceIte]
    have := k w h.drop
    simpa [h1] using this
abbrev boxL (l0 p : Nat) : HP := pts l0 (.cells [Value.pointer (some ⟨p, 0, none⟩)].toArray 52 (0, 0))
theorem AnyOut_spec {p d b l0 : Nat} {S : Lg} (h : sat E w (lgI p d b S (boxL l0 p * R))) (hs : S.size + 1 ≤ S.L.length) (hl : S.L.length ≤ 1024) {v : Value} {qs : List (Int × Value)} {ps : List (Int × Bs)} (hv : RdP R v qs ps) (hm : ps.length ≤ 100)
    (k : ∀ w', sat E w' (lgI p d b S (boxL l0 p * R)) → K (.bool (ps.any (rangeP S))) w') : Calls prog 90 #[v, .func (.func 91) #[] #[.pointer (some ⟨l0, 0, none⟩)]] w (Ret K) := by
  have hrd : Rds (lgI p d b S (boxL l0 p * R)) v ps.length (wcells qs) := by
    unfold lgI
    exact hv.rd.right.right.right.right
  obtain ⟨a, c, rfl, hc, hrd, _⟩ := hrd.shape h
  refine c90 ?_
  unfold B90
  refine c124 ?_
  unfold B124
  try simp only [↓opsA, opsB, if_true, if_false, ↓reduceIte]
  have hlen := hv.len
  have hwl := wcells_length qs
  refine lp_nat (fun q σ w => ∃ i : Nat, σ = [.int .i64 i] ∧ q = ps.length - i ∧ i ≤ ps.length ∧ (ps.take i).any (rangeP S) = false ∧ sat E w (lgI p d b S (boxL l0 p * R))) ps.length ⟨0, rfl, rfl, by omega, by simp, h⟩ ?_
  clear h
  rintro q σ w again ⟨i, rfl, rfl, hi, hz, h⟩ hag
  try simp only [↓opsA, opsB, if_true, if_false, ↓reduceIte]
  refine cd_dec (fun hlt => ?_) (fun hge => ?_)
  · have hlt : i < ps.length := by omega
    obtain ⟨q, hq, hqn, _⟩ := hv.at_ hlt
    obtain ⟨b1, o1, rfl, _⟩ := win_cell (hrd.win h) (j := i * 2) (by omega)
    rw [o_index (by omega) (by omega)]
    simp only [Int.toNat_natCast]
    refine ld_el h hrd (i * 2) rfl [.int .i64 q.1, q.2] rfl (wcells_el hq) ?_
    refine oCall_body Tryz.func91 (by kernel_rfl) (by kernel_rfl) ?_
    rw [hqn]
    refine Out_spec (x := ps[i]) h hs hl fun w h => ?_
    by_cases hx : rangeP S ps[i] = true
    · rw [hx]
      try simp only [↓opsA, opsB, if_true, if_false, ↓reduceIte]
      have h1 : (0 : Int) ≤ i := by omega
      simp only [h1, ↓opsA, opsB, if_true, if_false, ↓reduceIte]
      have : ps.any (rangeP S) = true := List.any_eq_true.2 ⟨ps[i], List.getElem_mem hlt, hx⟩
      rw [this] at k
      exact k w h
    · have hx : rangeP S ps[i] = false := by simpa using hx
      rw [hx]
      try simp only [↓opsA, opsB, if_true, if_false, ↓reduceIte]
      rw [i64_of (by omega) (by omega)]
      refine hag (ps.length - (i + 1)) _ _ (by omega) ⟨i + 1, rfl, rfl, by omega, ?_, h⟩
      rw [List.take_succ_eq_append_getElem hlt, List.any_append, hz]
      simp [hx]
  · have : i = ps.length := by omega
    subst this
    rw [List.take_length] at hz
    have h1 : ¬ (0 : Int) ≤ -1 := by omega
    simp only [h1, ↓opsA, opsB, if_true, if_false, ↓reduceIte]
    rw [hz] at k
    exact k w h
theorem lookM_none {l : List (Int × Value)} {n : Int} (h : n ∉ l.map (·.1)) : lookM l n = none := by
  unfold lookM
  induction l with
  | nil => rfl
  | cons x l ih =>
    simp only [List.map_cons, List.mem_cons, not_or] at h
    simp only [findM]
    rw [if_neg h.1, Option.map_map]
    have := ih h.2
    simp only [Option.map_eq_none_iff] at this ⊢
    exact this
theorem lookM_at {l : List (Int × Value)} (h : (l.map (·.1)).Nodup) {i : Nat} {q : Int × Value} (hq : l[i]? = some q) : lookM l q.1 = some q.2 := by
  unfold lookM
  induction l generalizing i with
  | nil => simp at hq
  | cons x l ih =>
    rw [List.map_cons, List.nodup_cons] at h
    simp only [findM]
    cases i with
    | zero => simp at hq; subst hq; simp
    | succ i =>
      simp only [List.getElem?_cons_succ] at hq
      have hne : q.1 ≠ x.1 := fun e => h.1 (by rw [← e]; exact List.mem_map_of_mem (List.mem_of_getElem? hq))
      rw [if_neg hne, Option.map_map]
      exact ih h.2 hq
theorem putM_add {l : List (Int × Value)} {n : Int} {v : Value} (h : n ∉ l.map (·.1)) : putM l n v = l ++ [(n, v)] := by
  induction l with
  | nil => rfl
  | cons x l ih =>
    simp only [List.map_cons, List.mem_cons, not_or] at h
    simp only [putM]
    rw [if_neg h.1, ih h.2]
    rfl
/-- The index, with some of the numbers in it. -/
def idxP (k : Nat) (ns : List Int) : Bs := be 2 k ++ (ns.flatMap fun n => be 2 n.toNat) ++ noughts (254 - 2 * ns.length)
theorem idxP_snoc {k : Nat} {ns : List Int} {n : Int} (h : ns.length < 100) : over (idxP k ns) (2 + 2 * ns.length) (be 2 n.toNat) = idxP k (ns ++ [n]) := by
  have hl : (be 2 k ++ ns.flatMap fun n => be 2 n.toNat).length = 2 + 2 * ns.length := by rw [List.length_append, be_length, fm2_length]
  unfold over idxP
  rw [List.take_append_of_le_length (by omega), ← hl, List.take_length, be_length, List.drop_append, List.drop_of_length_le (by omega), List.nil_append, Nat.add_sub_cancel_left]
  simp only [List.flatMap_append, List.flatMap_cons, List.flatMap_nil, List.append_nil, noughts, List.drop_replicate, List.length_append, List.length_cons, List.length_nil]
  rw [show 254 - 2 * ns.length - 2 = 254 - 2 * (ns.length + (0 + 1)) by omega]
  simp only [List.append_assoc]
theorem idxP_length {k : Nat} {ns : List Int} (h : ns.length ≤ 100) : (idxP k ns).length = 256 := by
  unfold idxP noughts
  rw [List.length_append, List.length_append, be_length, fm2_length, List.length_replicate]; omega
theorem idxP_nil (k : Nat) : over zeros 0 (be 2 k) = idxP k [] := by
  unfold over idxP
  simp [be_length, zeros, noughts]
end Go.Proofs.YtfaeklinhchidaaGreat

/-
  Commit.
-/
set_option linter.all false
set_option maxRecDepth 100000
namespace Go.Proofs.YtfaeklinhchidaaGreat
open Go Hold
variable {E : World0} {w : World} {H R X : HP} {K : Value → World → Prop}
theorem errC_form {S : Lg} {ps : List (Int × Bs)} (h1 : 1 ≤ ps.length) (h2 : ps.length ≤ 100) (h3 : ps.any (rangeP S) = false) (h4 : ¬ FormP ps) : errC S ps = 3 := by
  unfold errC
  rw [if_neg (by omega), if_neg (by omega), if_neg (by simp [h3]), if_pos h4]
theorem Commit_spec {p d b : Nat} {S : Lg} {gs : List (List Int)} (i : LInv S gs) (h : sat E w (lgI p d b S R)) {v : Value} {qs : List (Int × Value)} {ps : List (Int × Bs)} (hv : RdP R v qs ps) (hW : S.W.length ≤ 900000) (hg : S.groups < 2 ^ 40)
    (k : ∀ w', sat E w' (lgI p d b (commitS S ps) R) → K (.int .i64 (errC S ps)) w') : Calls prog 59 #[.pointer (some ⟨p, 0, none⟩), v] w (Ret K) := by
  have hsz := i.sz; have hle := i.wf.le; have hule := i.ule
  refine c59 ?_
  unfold B59
  refine box_sl h fun l0 w h => ?_
  have h : sat E w (boxL l0 p * lgI p d b S R) := h
  have h := lg_in h
  obtain ⟨av, cv, rfl, hcv, hvr, _⟩ := hv.rd.shape (show sat E w R from by unfold lgI at h; exact h.drop.drop.drop.drop)
  refine ld_at h ?_
  try simp only [↓opsA, opsB, if_true, if_false, ↓reduceIte]
  by_cases h0 : ps.length = 0
  · have he : errC S ps = 0 := by unfold errC; rw [if_pos h0]
    have hc : commitS S ps = S := by unfold commitS; rw [if_neg (fun e => e.2 (List.length_eq_zero_iff.1 h0))]
    rw [he, hc] at k
    simp only [h0, Int.natCast_zero, ↓opsA, opsB, if_true, if_false, ↓reduceIte]
    exact k w (lg_out h).drop
  have h0' : ¬ (ps.length : Int) = 0 := by omega
  simp only [h0', ↓opsA, opsB, if_true, if_false, ↓reduceIte]
  have hbad : ∀ e : Int, errC S ps = e → e ≠ 0 → ∀ w', sat E w' (lgI p d b S R) → K (.int .i64 e) w' := fun e he hne w' h' => by
    have hc : commitS S ps = S := by unfold commitS; rw [if_neg (fun x => hne (by rw [← he]; exact x.1))]
    rw [he, hc] at k
    exact k w' h'
  by_cases h1 : (100 : Int) < (ps.length : Int)
  · simp only [h1, ↓opsA, opsB, if_true, if_false, ↓reduceIte]
    exact hbad 6 (by unfold errC; rw [if_neg h0, if_pos (by omega)]) (by decide) w (lg_out h).drop
  simp only [h1, ↓opsA, opsB, if_true, if_false, ↓reduceIte]
  refine pvv_of (v := .func (.func 91) #[] #[.pointer (some ⟨l0, 0, none⟩)]) (fun _ => rfl) ?_
  refine AnyOut_spec h (by omega) hle hv (by omega) fun w h => ?_
  cases h2 : ps.any (rangeP S) with
  | true =>
    try simp only [↓opsA, opsB, if_true, if_false, ↓reduceIte]
    exact hbad 2 (by unfold errC; rw [if_neg h0, if_neg (by omega), if_pos h2]) (by decide) w (lg_out h).drop
  | false =>
  try simp only [↓opsA, opsB, if_true, if_false, ↓reduceIte]
  refine make_map h fun bo w h => ?_
  have hlen := hv.len
  have hwl := wcells_length qs
  refine lp_nat (fun r σ w => ∃ m : Nat, σ = [.int .i64 m] ∧ r = ps.length - m ∧ m ≤ ps.length ∧ FormP (ps.take m) ∧ sat E w (omap bo (qs.take m) * lgI p d b S (boxL l0 p * R))) ps.length ⟨0, rfl, rfl, by omega, ⟨by simp, by simp⟩, by simpa using h⟩ ?_
  clear h
  rintro r σ w again ⟨m, rfl, rfl, hm, hf, h⟩ hag
  try simp only [↓opsA, opsB, if_true, if_false, ↓reduceIte]
  refine cd_dec (fun hlt => ?_) (fun hge => ?_)
  · have hlt : m < ps.length := by omega
    obtain ⟨q, hq, hqn, hqr⟩ := hv.at_ hlt
    have hrd : Rds (omap bo (qs.take m) * lgI p d b S (boxL l0 p * R)) (.slice av ps.length cv) ps.length (wcells qs) := by
      unfold lgI
      exact hv.rd.right.right.right.right.right
    obtain ⟨b1, o1, rfl, _⟩ := win_cell (hrd.win h) (j := m * 2) (by omega)
    rw [o_index (by omega) (by omega)]
    simp only [Int.toNat_natCast]
    refine ld_el h hrd (m * 2) rfl [.int .i64 q.1, q.2] rfl (wcells_el hq) ?_
    obtain ⟨aq, cq, hqv, hcq, hqr2, haq⟩ := hqr.shape (show sat E w R from by unfold lgI at h; exact h.drop.drop.drop.drop.drop)
    refine alloc_sl h fun c w h => ?_
    refine store_all (b := c) h rfl rfl (by intro x hx; rw [hqv] at hx; simp at hx; rcases hx with rfl | rfl <;> rfl) fun w h => ?_
    try simp only [↓opsA, opsB, if_true, if_false, ↓reduceIte]
    refine ld_at h ?_
    refine look1_ld h ?_
    have hkeys : (qs.take m).map (·.1) = (ps.take m).map (·.1) := by rw [List.map_take, List.map_take, hv.num]
    by_cases hdup : q.1 ∈ (ps.take m).map (·.1)
    · obtain ⟨j, hj, ej⟩ := List.mem_iff_getElem.1 hdup
      have hjm : j < m := by simp at hj; omega
      obtain ⟨y, hy, hyn, hyr⟩ := hv.at_ (i := j) (by omega)
      have hy2 : (qs.take m)[j]? = some y := by rw [List.getElem?_take_of_lt hjm, hy]
      have e1 : q.1 = y.1 := by rw [← ej, hyn]; simp
      rw [e1, lookM_at (by rw [hkeys]; exact hf.1) hy2, Option.getD_some]
      obtain ⟨ay, cy, hyv, _, _, hay⟩ := hyr.shape (show sat E w R from by unfold lgI at h; exact h.drop.drop.drop.drop.drop.drop)
      have h256 : ps[j].2.length = 256 := hf.2 ps[j] (by rw [List.mem_iff_getElem]; exact ⟨j, by simpa using hj, by simp⟩)
      cases ay with
      | none => have := hay rfl; rw [List.map_eq_nil_iff] at this; rw [this] at h256; simp at h256
      | some ay =>
        rw [hyv]
        try simp only [↓opsA, opsB, if_true, if_false, ↓reduceIte]
        refine hbad 3 (errC_form (by omega) (by omega) h2 fun hF => ?_) (by decide) w (lg_out h.drop.drop).drop
        have hnd := hF.1
        rw [List.nodup_iff_pairwise_ne, List.pairwise_iff_getElem] at hnd
        refine hnd j m (by simp; omega) (by simp; omega) hjm ?_
        simp only [List.getElem_map]
        rw [← hqn, e1, hyn]
    · have hno : q.1 ∉ (qs.take m).map (·.1) := by rw [hkeys]; exact hdup
      rw [lookM_none hno, Option.getD_none]
      try simp only [↓opsA, opsB, if_true, if_false, ↓reduceIte]
      refine ld_at h ?_
      rw [hqv]
      try simp only [↓opsA, opsB, if_true, if_false, ↓reduceIte]
      by_cases h256 : ps[m].2.length = 256
      · have h256' : (ps[m].2.length : Int) = 256 := by omega
        simp only [h256', ↓opsA, opsB, if_true, if_false, ↓reduceIte]
        refine ld_at h ?_
        refine ld_at h ?_
        rw [hqv]
        refine update_sl h fun w h => ?_
        try simp only [↓opsA, opsB, if_true, if_false, ↓reduceIte]
        rw [i64_of (by omega) (by omega)]
        have e2 : putM (qs.take m) q.1 q.2 = qs.take (m + 1) := by
          rw [putM_add hno, List.take_succ, hq]; rfl
        rw [← hqv, e2] at h
        have e3 : ps.take (m + 1) = ps.take m ++ [ps[m]] := List.take_succ_eq_append_getElem hlt
        refine hag (ps.length - (m + 1)) _ _ (by omega) ⟨m + 1, rfl, rfl, by omega, ?_, ?_⟩
        · rw [e3]
          refine ⟨?_, fun x hx => ?_⟩
          · rw [List.map_append, List.nodup_append]
            refine ⟨hf.1, by simp, ?_⟩
            intro a ha c hc e
            simp only [List.map_cons, List.map_nil, List.mem_singleton] at hc
            subst e
            rw [hc, ← hqn] at ha
            exact hdup ha
          · rcases List.mem_append.1 hx with hx | hx
            · exact hf.2 x hx
            · simp at hx; rw [hx]; exact h256
        · exact (h.perm (star_left_comm _ _ _)).drop
      · have h256' : ¬ (ps[m].2.length : Int) = 256 := by omega
        simp only [h256', ↓opsA, opsB, if_true, if_false, ↓reduceIte]
        refine hbad 3 (errC_form (by omega) (by omega) h2 fun hF => h256 (hF.2 _ (List.getElem_mem hlt))) (by decide) w (lg_out h.drop.drop).drop
  · have hmm : m = ps.length := by omega
    subst hmm
    rw [List.take_length] at hf
    rw [← hlen, List.take_length] at h
    unfold lgI lcells at h
    refine dr_sl h fun w h _ => ?_
    refine ld_at h ?_
    try simp only [↓opsA, opsB, if_true, if_false, ↓reduceIte]
    refine ld_at h ?_
    refine ld_at h ?_
    try simp only [↓opsA, opsB, if_true, if_false, ↓reduceIte]
    refine ld_at h ?_
    rw [o_sub, i64_of (by omega) (by omega)]
    refine Need_spec ?_
    rw [if_neg (by omega)]
    refine st_at h ?_
    refine st_at h ?_
    refine st_at h ?_
    refine st_at h ?_
    by_cases hfit : (S.size : Int) - (S.used : Int) < (ps.length : Int) + 1
    · simp only [hfit, ↓opsA, opsB, if_true, if_false, ↓reduceIte]
      refine hbad 7 (by unfold errC; rw [if_neg h0, if_neg (by omega), if_neg (by simp [h2]), if_neg (by simpa using hf), if_pos (by omega)]) (by decide) w ?_
      unfold lgI lcells
      exact (h.perm (show _ = omap bo qs * (boxL l0 p * (pts p (.cells [Value.pointer (some ⟨d, 0, none⟩), .int .i64 S.size, .int .i64 S.groups, .int .i64 S.used, .map (some b)].toArray 114 (0, 0)) * (dsk d S.L S.W * (omap b (mpA S.a) * R)))) by ac_rfl)).drop.drop
    simp only [hfit, ↓opsA, opsB, if_true, if_false, ↓reduceIte]
    have herr : errC S ps = 0 := by
      unfold errC; rw [if_neg h0, if_neg (by omega), if_neg (by simp [h2]), if_neg (by simpa using hf), if_neg (by omega)]
    have hne : ps ≠ [] := fun e => h0 (by rw [e]; rfl)
    have t := errC_zero herr hne
    have hfit2 := t.fit
    have hn1 := t.n1; have hn2 := t.n2
    have hc : commitS S ps = commitT S ps := by unfold commitS; rw [if_pos ⟨herr, hne⟩]
    rw [herr, hc] at k
    refine make_sl h rfl (by omega) (by omega) (by omega) (by omega) fun q w h => ?_
    have e3 : (256 : Int).toNat = 256 := rfl
    rw [e3] at h ⊢
    rw [zeros_map] at h
    rw [o_slice_h (by omega) (by omega)]
    simp only [↓opsA, opsB, if_true, if_false, ↓reduceIte, show (2 : Int).toNat = 2 from rfl]
    refine set_spec h (o := 0) (m := 2) (by omega) (by simp [zeros]) fun w h => ?_
    rw [idxP_nil] at h
    refine KU.SortedKeys_spec (b := bo) (by omega) (h.ownm bo) fun u ss w hp hs h => ?_
    have hss : ss = (sortP ps).map (·.1) := by
      refine (hp.trans ?_).eq_of_pairwise (fun x y _ _ a c => by omega) hs ((sortP_rise hf.1).imp (by intro a c h; omega))
      rw [hv.num]
      exact ((sortP_perm ps).map (·.1)).symm
    subst hss
    have hsl : ((sortP ps).map (·.1)).length = ps.length := by rw [List.length_map, sortP_length]
    obtain ⟨au, cu, rfl, hcu, hlu, _⟩ := osl_shape h
    try simp only [↓opsA, opsB, if_true, if_false, ↓reduceIte]
    have h : sat E w (osl 3 1 (.slice au ((sortP ps).map (·.1)).length cu) ((sortP ps).map (·.1)).length (((sortP ps).map (·.1)).map iv) * (pts q (.cells ((idxP ps.length (((sortP ps).map (·.1)).take 0)).map bv).toArray 5 (0, 0)) * (omap bo qs * lgI p d b S (boxL l0 p * R)))) := by
      unfold lgI lcells
      exact h.perm (by rw [List.take_zero]; ac_rfl)
    have hrise := t.fmap
    generalize hns : (sortP ps).map (·.1) = ns at h hsl hrise ⊢
    refine lp_nat (fun r σ w => ∃ m : Nat, σ = [.int .i64 m] ∧ r = ps.length - m ∧ m ≤ ps.length ∧
      sat E w (osl 3 1 (.slice au ns.length cu) ns.length (ns.map iv) * (pts q (.cells ((idxP ps.length (ns.take m)).map bv).toArray 5 (0, 0)) * (omap bo qs * lgI p d b S (boxL l0 p * R))))) ps.length ⟨0, rfl, rfl, by omega, h⟩ ?_
    clear h
    rintro r σ w again ⟨m, rfl, rfl, hm, h⟩ hag
    try simp only [↓opsA, opsB, if_true, if_false, ↓reduceIte]
    refine cd_dec (fun hlt => ?_) (fun hge => ?_)
    · have hlt : m < ps.length := by omega
      obtain ⟨bu, ou, rfl, hbu⟩ := win_cell ((Rds.osl).win h.drop') (j := m) (by rw [List.length_map]; omega)
      rw [o_index (by omega) (by omega)]
      simp only [Int.toNat_natCast, Nat.mul_one]
      refine ld_cell hbu ?_
      rw [List.getElem_map]
      have hx := hrise.all _ (List.getElem_mem (show m < ns.length by omega))
      simp only [iv]
      rw [i64_of (n := 2 * (m : Int)) (by omega) (by omega), i64_of (n := 2 + 2 * (m : Int)) (by omega) (by omega), i64_of (n := 4 + 2 * (m : Int)) (by omega) (by omega),
        o_slice_lh (by omega) (by omega) (by omega), cutA_some (by omega)]
      simp only [Nat.mul_one, Nat.zero_add]
      rw [show (2 + 2 * (m : Int)).toNat = 2 + 2 * m by omega, show (4 + 2 * (m : Int)).toNat - (2 + 2 * m) = 2 by omega, ← Int.toNat_of_nonneg hx.1]
      have hpl : (idxP ps.length (ns.take m)).length = 256 := idxP_length (by rw [List.length_take]; omega)
      refine set_spec h (m := 2) (by omega) (by rw [hpl]; omega) fun w h => ?_
      rw [i64_of (by omega) (by omega)]
      have htl : (ns.take m).length = m := by rw [List.length_take]; omega
      have e4 := idxP_snoc (k := ps.length) (ns := ns.take m) (n := ns[m]) (by omega)
      rw [htl] at e4
      refine hag (ps.length - (m + 1)) _ _ (by omega) ⟨m + 1, rfl, rfl, by omega, ?_⟩
      rw [List.take_succ_eq_append_getElem (show m < ns.length by omega), ← e4]
      exact h.perm (by ac_rfl)
    · have hmm : m = ps.length := by omega
      subst hmm
      rw [show ns.take ps.length = ns by rw [← hsl, List.take_length]] at h
      have hidx : idxP ps.length ns = idx ns := by unfold idxP idx; rw [hsl]
      rw [hidx] at h
      unfold lgI lcells at h
      refine ld_at h ?_
      try simp only [↓opsA, opsB, if_true, if_false, ↓reduceIte]
      refine ld_at h ?_
      try simp only [↓opsA, opsB, if_true, if_false, ↓reduceIte]
      refine ld_at h ?_
      try simp only [↓opsA, opsB, if_true, if_false, ↓reduceIte]
      refine ld_at h ?_
      rw [i64_of (n := (S.used : Int) + 1) (by omega) (by omega), show (S.used : Int) + 1 = ((S.used + 1 : Nat) : Int) by omega]
      have hil : (idx ns).length = 256 := idx_length hrise.h2
      have h := h.own q
      have h := osl_of (n := 256) (sz := 1) h (by rw [List.length_map, hil]) (by omega)
      refine wr_spec h S (l := idx ns) (by omega) hil (by omega) Rds.own fun w h => ?_
      try simp only [↓opsA, opsB, if_true, if_false, ↓reduceIte]
      have hst : commitT S ps = commitT S ps := rfl
      obtain ⟨S1, hS1⟩ : ∃ S1, S1 = wr S (S.used + 1) (idx ns) := ⟨_, rfl⟩
      have hS1L : S1.L.length = S.L.length := by rw [hS1]; exact wr_len _ _ _
      have hS1W : S1.W.length = S.W.length + 1 := by rw [hS1]; exact wr_W _ _ _
      have h : sat E w (osl 3 1 (.slice au ns.length cu) ns.length (ns.map iv) * (omap bo qs * lgI p d b (stepP S1 (S.used + 2) ((sortP ps).take 0)) (boxL l0 p * R))) := by
        rw [List.take_zero]
        show sat E w (osl 3 1 (.slice au ns.length cu) ns.length (ns.map iv) * (omap bo qs * lgI p d b S1 (boxL l0 p * R)))
        rw [hS1]
        have h := (h.split (osl 5 1 (.slice (some ⟨q, 0, none⟩) 256 256) 256 ((idx ns).map bv))).drop
        unfold lgI lcells
        exact h.perm (by
          show _ = osl 3 1 _ _ _ * (omap bo qs * (pts p (.cells [Value.pointer (some ⟨d, 0, none⟩), .int .i64 S.size, .int .i64 S.groups, .int .i64 S.used, .map (some b)].toArray 114 (0, 0)) * (dsk d (wr S (S.used + 1) (idx ns)).L (wr S (S.used + 1) (idx ns)).W * (omap b (mpA S.a) * (boxL l0 p * R)))))
          ac_rfl)
      refine lp_nat (fun r σ w => ∃ m : Nat, σ = [.int .i64 m] ∧ r = ps.length - m ∧ m ≤ ps.length ∧
        sat E w (osl 3 1 (.slice au ns.length cu) ns.length (ns.map iv) * (omap bo qs * lgI p d b (stepP S1 (S.used + 2) ((sortP ps).take m)) (boxL l0 p * R)))) ps.length ⟨0, rfl, rfl, by omega, h⟩ ?_
      clear h hag
      rintro r σ w again ⟨m, rfl, rfl, hm, h⟩ hag
      try simp only [↓opsA, opsB, if_true, if_false, ↓reduceIte]
      refine cd_dec (fun hlt => ?_) (fun hge => ?_)
      · have hlt : m < ps.length := by omega
        have hlt2 : m < (sortP ps).length := by rw [sortP_length]; exact hlt
        obtain ⟨k1, k2, k3, k4, k5⟩ := stepP_keep ((sortP ps).take m) S1 (S.used + 2)
        generalize hT : stepP S1 (S.used + 2) ((sortP ps).take m) = T at h k1 k2 k3 k4 k5
        obtain ⟨bu, ou, rfl, hbu⟩ := win_cell ((Rds.osl).win h.drop') (j := m) (by rw [List.length_map]; omega)
        rw [o_index (by omega) (by omega)]
        simp only [Int.toNat_natCast, Nat.mul_one]
        refine ld_cell hbu ?_
        rw [List.getElem_map]
        have hnm : ns[m]'(by omega) = ((sortP ps)[m]).1 := by simp only [← hns, List.getElem_map]
        rw [hnm]
        have hmem : (sortP ps)[m] ∈ ps := (sortP_perm ps).mem_iff.1 (List.getElem_mem hlt2)
        obtain ⟨j, hj, ej⟩ := List.mem_iff_getElem.1 hmem
        obtain ⟨y, hy, hyn, hyr⟩ := hv.at_ hj
        rw [ej] at hyn hyr
        simp only [iv]
        unfold lgI lcells at h
        refine dr_sl h fun w h _ => ?_
        rw [i64_of (n := ((S.used + 1 : Nat) : Int) + 1) (by omega) (by omega), i64_of (n := ((S.used + 1 : Nat) : Int) + 1 + m) (by omega) (by omega), show ((S.used + 1 : Nat) : Int) + 1 + (m : Int) = ((S.used + 2 + m : Nat) : Int) by omega]
        try simp only [↓opsA, opsB, if_true, if_false, ↓reduceIte]
        refine ld_at h ?_
        try simp only [↓opsA, opsB, if_true, if_false, ↓reduceIte]
        refine ld_at h ?_
        refine look1_ld h ?_
        rw [← hyn, lookM_at (by rw [hv.num]; exact hf.1) hy, Option.getD_some]
        have h256 : ((sortP ps)[m]).2.length = 256 := hf.2 _ hmem
        rw [h256] at hyr
        refine wr_spec (R := osl 3 1 (.slice (some ⟨bu, ou, none⟩) ns.length cu) ns.length (ns.map iv) * (omap bo qs * (pts p (.cells (lcells T d b).toArray 114 (0, 0)) * (omap b (mpA T.a) * (boxL l0 p * R))))) (s := ⟨by unfold lcells; ac_rfl⟩) h T (n := S.used + 2 + m) (l := ((sortP ps)[m]).2) (by omega) h256 (by rw [k5, List.length_take]; omega) hyr.right.right.right.right.right fun w h => ?_
        unfold lcells at h
        refine st_at h ?_
        try simp only [↓opsA, opsB, if_true, if_false, ↓reduceIte]
        refine ld_at h ?_
        try simp only [↓opsA, opsB, if_true, if_false, ↓reduceIte]
        refine ld_at h ?_
        refine update_sl (b := b) h fun w h => ?_
        try simp only [↓opsA, opsB, if_true, if_false, ↓reduceIte]
        rw [i64_of (by omega) (by omega)]
        refine hag (ps.length - (m + 1)) _ _ (by omega) ⟨m + 1, rfl, rfl, by omega, ?_⟩
        have e5 : stepP S1 (S.used + 2) ((sortP ps).take (m + 1)) = step1 T ((sortP ps)[m]) (S.used + 2 + m) := by
          rw [List.take_succ_eq_append_getElem hlt2, stepP_snoc, hT, List.length_take, Nat.min_eq_left (by omega)]
        rw [e5]
        have e6 : putM (mpA T.a) y.1 (.int .i64 ((S.used + 2 + m : Nat) : Int)) = mpA (putA T.a ((sortP ps)[m]).1 ((S.used + 2 + m : Nat) : Int)) := by rw [hyn]; exact mpA_put _ _ _
        rw [e6] at h
        unfold lgI lcells step1
        exact h.perm (by
          show _ = osl 3 1 _ _ _ * (omap bo qs * (pts p (.cells [Value.pointer (some ⟨d, 0, none⟩), .int .i64 T.size, .int .i64 T.groups, .int .i64 T.used, .map (some b)].toArray 114 (0, 0)) * (dsk d (wr T (S.used + 2 + m) ((sortP ps)[m]).2).L (wr T (S.used + 2 + m) ((sortP ps)[m]).2).W * (omap b (mpA (putA T.a ((sortP ps)[m]).1 ((S.used + 2 + m : Nat) : Int))) * (boxL l0 p * R)))))
          ac_rfl)
      · have hmm : m = ps.length := by omega
        subst hmm
        rw [show (sortP ps).take ps.length = sortP ps by rw [← sortP_length, List.take_length]] at h
        obtain ⟨k1, k2, k3, k4, k5⟩ := stepP_keep (sortP ps) S1 (S.used + 2)
        have hM : midT S ps = { stepP S1 (S.used + 2) (sortP ps) with used := S.used + (ps.length + 1), groups := S.groups + 1 } := by
          unfold midT; rw [hS1, hns]
        generalize hT : stepP S1 (S.used + 2) (sortP ps) = T at h k1 k2 k3 k4 k5 hM
        have h := h.drop.drop
        have hTu : T.used = S.used := by rw [k3, hS1]; rfl
        have hTg : T.groups = S.groups := by rw [k2, hS1]; rfl
        unfold lgI lcells at h
        rw [hTu, hTg] at h
        refine dr_sl h fun w h _ => ?_
        refine ld_at h ?_
        try simp only [↓opsA, opsB, if_true, if_false, ↓reduceIte]
        refine ld_at h ?_
        refine Need_spec ?_
        rw [if_neg (by omega)]
        refine st_at h ?_
        refine st_at h ?_
        try simp only [↓opsA, opsB, if_true, if_false, ↓reduceIte]
        rw [i64_of (n := (S.used : Int) + ((ps.length : Int) + 1)) (by omega) (by omega)]
        refine store_at h rfl (by simp) fun w h => ?_
        refine ld_at h ?_
        try simp only [↓opsA, opsB, if_true, if_false, ↓reduceIte]
        refine ld_at h ?_
        try simp only [↓opsA, opsB, if_true, if_false, ↓reduceIte]
        rw [i64_of (n := (S.groups : Int) + 1) (by omega) (by omega)]
        refine store_at h rfl (by simp) fun w h => ?_
        refine ld_at h ?_
        refine Head_spec (E := E) (p := p) (d := d) (b := b) (S := midT S ps) (R := boxL l0 p * R) ?_ (by rw [(midT_len S ps).1]; omega) (by rw [(midT_len S ps).2]; omega) fun w h => ?_
        · rw [hM]
          unfold lgI lcells
          exact h.perm (by
            show _ = pts p (.cells [Value.pointer (some ⟨d, 0, none⟩), .int .i64 T.size, .int .i64 ((S.groups + 1 : Nat) : Int), .int .i64 ((S.used + (ps.length + 1) : Nat) : Int), .map (some b)].toArray 114 (0, 0)) * (dsk d T.L T.W * (omap b (mpA T.a) * (boxL l0 p * R)))
            rw [show ((S.groups + 1 : Nat) : Int) = (S.groups : Int) + 1 by omega, show ((S.used + (ps.length + 1) : Nat) : Int) = (S.used : Int) + ((ps.length : Int) + 1) by omega]
            try ac_rfl)
        · exact k w (lg_out h).drop
end Go.Proofs.YtfaeklinhchidaaGreat

/-
  New logs; groups in any order.
-/
set_option linter.all false
set_option maxRecDepth 100000
namespace Go.Proofs.YtfaeklinhchidaaGreat
open Go Hold
variable {E : World0} {w : World} {H R X : HP} {K : Value → World → Prop}
theorem Z_wf {n : Nat} (h1 : 1 ≤ n) (h2 : n ≤ 1024) : Wf (List.replicate n zeros) [] := ⟨by simpa using h1, by simpa using h2, fun l hl => by rw [List.eq_of_mem_replicate hl]; simp [zeros], fun p hp => by cases hp⟩
def newL (n size : Nat) : Lg := ⟨List.replicate n zeros, [], size, 0, 0, []⟩
theorem newL_inv {n size : Nat} (h1 : 2 ≤ size) (h2 : size + 2 ≤ n) (h3 : n ≤ 1024) : LInv (newL n size) [] :=
  ⟨Z_wf (by omega) h3, h1, by simp [newL]; exact h2, rfl, Nat.zero_le _, rfl, fun g hg => absurd hg (by simp), ⟨.inl ⟨by show (List.replicate n zeros)[0]? = _; rw [List.getElem?_replicate, if_pos (by omega)], rfl, rfl⟩, fun i g hg => by simp at hg⟩⟩
theorem form_perm {ps qs : List (Int × Bs)} (h : ps.Perm qs) : FormP ps ↔ FormP qs := by
  unfold FormP
  rw [(h.map (·.1)).nodup_iff]
  constructor
  · exact fun x => ⟨x.1, fun p hp => x.2 p (h.mem_iff.2 hp)⟩
  · exact fun x => ⟨x.1, fun p hp => x.2 p (h.mem_iff.1 hp)⟩
theorem err_perm {S : Lg} {ps qs : List (Int × Bs)} (h : ps.Perm qs) : errC S ps = errC S qs := by
  have e1 : ps.any (rangeP S) = qs.any (rangeP S) := by
    rw [Bool.eq_iff_iff, List.any_eq_true, List.any_eq_true]
    constructor
    · rintro ⟨x, a, b⟩; exact ⟨x, h.mem_iff.1 a, b⟩
    · rintro ⟨x, a, b⟩; exact ⟨x, h.mem_iff.2 a, b⟩
  have e2 : FormP ps ↔ FormP qs := form_perm h
  unfold errC
  rw [h.length_eq, e1]
  simp only [e2]
theorem commit_perm {S : Lg} {ps qs : List (Int × Bs)} (h : ps.Perm qs) : commitS S ps = commitS S qs := by
  unfold commitS
  rw [err_perm h]
  have e : ps ≠ [] ↔ qs ≠ [] := ⟨fun hne e => hne (by subst e; exact (h.symm.nil_eq).symm), fun hne e => hne (by subst e; exact h.nil_eq.symm)⟩
  simp only [e]
  split
  · rename_i hx
    have t := errC_zero hx.1 hx.2
    unfold commitT
    rw [sortP_unique h ((form_perm h).2 t.form).1, h.length_eq]
  · rfl
end Go.Proofs.YtfaeklinhchidaaGreat

/-
  A cache of pages, plainly: what it holds, what its calls do. No program in sight.
-/
set_option linter.all false
set_option maxRecDepth 100000
namespace Go.Proofs.YtfaeklinhchidaaGreat
open Go Hold
/-! ### Maps from numbers to bytes -/
def putB : List (Int × Bs) → Int → Bs → List (Int × Bs)
  | [], k, v => [(k, v)]
  | x :: r, k, v => if k = x.1 then (k, v) :: r else x :: putB r k v
def lookB : List (Int × Bs) → Int → Option Bs
  | [], _ => none
  | x :: r, k => if k = x.1 then some x.2 else lookB r k
def delB : List (Int × Bs) → Int → List (Int × Bs)
  | [], _ => []
  | x :: r, k => if k = x.1 then r else x :: delB r k
theorem lookB_put (k : Int) (v : Bs) (k' : Int) : ∀ l, lookB (putB l k v) k' = if k' = k then some v else lookB l k'
  | [] => by simp [putB, lookB]
  | x :: r => by
    have ih := lookB_put k v k' r
    unfold putB
    by_cases h : k = x.1
    · subst h
      rw [if_pos rfl]
      simp only [lookB]
      split <;> simp_all
    · rw [if_neg h]
      simp only [lookB, ih]
      by_cases h1 : k' = x.1
      · rw [if_pos h1, if_neg (by omega), if_pos h1]
      · rw [if_neg h1, if_neg h1]
theorem putB_mem {k : Int} {v : Bs} {y : Int × Bs} : ∀ {l}, y ∈ putB l k v → y = (k, v) ∨ y ∈ l
  | [], h => by simp [putB] at h; exact .inl h
  | x :: r, h => by
    unfold putB at h
    split at h
    · rcases List.mem_cons.1 h with h | h
      · exact .inl h
      · exact .inr (List.mem_cons_of_mem _ h)
    · rcases List.mem_cons.1 h with h | h
      · exact .inr (by simp [h])
      · exact (putB_mem h).imp id (List.mem_cons_of_mem _)
theorem putB_keys {k : Int} {v : Bs} {n : Int} : ∀ {l : List (Int × Bs)}, n ∈ (putB l k v).map (·.1) ↔ n = k ∨ n ∈ l.map (·.1)
  | [] => by simp [putB]
  | x :: r => by
    have ih := putB_keys (k := k) (v := v) (n := n) (l := r)
    unfold putB
    split
    · rename_i e
      simp only [List.map_cons, List.mem_cons, e]
      constructor
      · rintro (h | h)
        · exact .inl h
        · exact .inr (.inr h)
      · rintro (h | h | h)
        · exact .inl h
        · exact .inl h
        · exact .inr h
    · simp only [List.map_cons, List.mem_cons, ih]
      constructor
      · rintro (h | h | h)
        · exact .inr (.inl h)
        · exact .inl h
        · exact .inr (.inr h)
      · rintro (h | h | h)
        · exact .inr (.inl h)
        · exact .inl h
        · exact .inr (.inr h)
theorem putB_nodup {k : Int} {v : Bs} : ∀ {l : List (Int × Bs)}, (l.map (·.1)).Nodup → ((putB l k v).map (·.1)).Nodup
  | [], _ => by simp [putB]
  | x :: r, h => by
    rw [List.map_cons, List.nodup_cons] at h
    unfold putB
    split
    · rename_i e
      rw [List.map_cons, List.nodup_cons]
      exact ⟨by rw [e]; exact h.1, h.2⟩
    · rename_i e
      rw [List.map_cons, List.nodup_cons]
      refine ⟨fun hm => ?_, putB_nodup h.2⟩
      rcases putB_keys.1 hm with h1 | h1
      · exact e h1.symm
      · exact h.1 h1
theorem putB_len {k : Int} {v : Bs} : ∀ {l : List (Int × Bs)}, (putB l k v).length = if k ∈ l.map (·.1) then l.length else l.length + 1
  | [] => by simp [putB]
  | x :: r => by
    have ih := putB_len (k := k) (v := v) (l := r)
    unfold putB
    by_cases e : k = x.1
    · rw [if_pos e, if_pos (by simp [e])]; rfl
    · rw [if_neg e, List.length_cons, ih]
      simp only [List.map_cons, List.mem_cons, e, false_or, List.length_cons]
      split <;> rfl
theorem lookB_mem {k : Int} {v : Bs} : ∀ {l}, lookB l k = some v → (k, v) ∈ l
  | [], h => by simp [lookB] at h
  | x :: r, h => by
    unfold lookB at h
    split at h
    · rename_i e
      have : x.2 = v := by simpa using h
      subst this; subst e
      simp
    · exact List.mem_cons_of_mem _ (lookB_mem h)
theorem lookB_none {k : Int} : ∀ {l : List (Int × Bs)}, lookB l k = none ↔ k ∉ l.map (·.1)
  | [] => by simp [lookB]
  | x :: r => by
    have ih := lookB_none (k := k) (l := r)
    unfold lookB
    by_cases e : k = x.1
    · rw [if_pos e]; simp [e]
    · rw [if_neg e, ih]; simp [e]
theorem lookB_of {k : Int} {v : Bs} : ∀ {l : List (Int × Bs)}, (l.map (·.1)).Nodup → (k, v) ∈ l → lookB l k = some v
  | [], _, h => by simp at h
  | x :: r, hn, h => by
    rw [List.map_cons, List.nodup_cons] at hn
    unfold lookB
    rcases List.mem_cons.1 h with h | h
    · rw [← h, if_pos rfl]
    · have : k ≠ x.1 := fun e => hn.1 (by rw [← e]; exact List.mem_map_of_mem (f := (·.1)) h)
      rw [if_neg this]
      exact lookB_of hn.2 h
theorem delB_keys {k n : Int} : ∀ {l : List (Int × Bs)}, (l.map (·.1)).Nodup → (n ∈ (delB l k).map (·.1) ↔ n ≠ k ∧ n ∈ l.map (·.1))
  | [], _ => by simp [delB]
  | x :: r, h => by
    rw [List.map_cons, List.nodup_cons] at h
    unfold delB
    split
    · rename_i e
      simp only [List.map_cons, List.mem_cons]
      constructor
      · intro hn
        exact ⟨fun e2 => h.1 (by rw [← e, ← e2]; exact hn), .inr hn⟩
      · rintro ⟨h1, h2 | h2⟩
        · exact absurd (h2.trans e.symm) h1
        · exact h2
    · rename_i e
      simp only [List.map_cons, List.mem_cons, delB_keys h.2]
      constructor
      · rintro (h1 | h1)
        · exact ⟨fun e2 => e (e2.symm.trans h1), .inl h1⟩
        · exact ⟨h1.1, .inr h1.2⟩
      · rintro ⟨h1, h2 | h2⟩
        · exact .inl h2
        · exact .inr ⟨h1, h2⟩
theorem delB_mem {k : Int} {y : Int × Bs} : ∀ {l}, y ∈ delB l k → y ∈ l
  | [], h => by simp [delB] at h
  | x :: r, h => by
    unfold delB at h
    split at h
    · exact List.mem_cons_of_mem _ h
    · rcases List.mem_cons.1 h with h | h
      · exact h ▸ List.mem_cons_self
      · exact List.mem_cons_of_mem _ (delB_mem h)
theorem delB_nodup {k : Int} : ∀ {l : List (Int × Bs)}, (l.map (·.1)).Nodup → ((delB l k).map (·.1)).Nodup
  | [], _ => by simp [delB]
  | x :: r, h => by
    have h0 := h
    rw [List.map_cons, List.nodup_cons] at h
    unfold delB
    split
    · exact h.2
    · rw [List.map_cons, List.nodup_cons]
      exact ⟨fun hm => h.1 ((delB_keys h.2).1 hm).2, delB_nodup h.2⟩
/-! ### What is read behind a group -/
theorem lookA_putN {k : Int} : ∀ (ns : List Int) (a : List (Int × Int)) (u : Nat), ns.Nodup → (k ∉ ns → lookA (putN a u ns) k = lookA a k) ∧ (∀ i, ns[i]? = some k → lookA (putN a u ns) k = some ((u + i : Nat) : Int))
  | [], a, u, _ => ⟨fun _ => rfl, fun i h => by simp at h⟩
  | n :: ns, a, u, hn => by
    rw [List.nodup_cons] at hn
    obtain ⟨h1, h2⟩ := lookA_putN ns (putA a n u) (u + 1) hn.2
    simp only [putN]
    constructor
    · intro hk
      simp only [List.mem_cons, not_or] at hk
      rw [h1 hk.2, lookA_put, if_neg hk.1]
    · intro i hi
      cases i with
      | zero =>
        simp at hi; subst hi
        rw [h1 hn.1, lookA_put, if_pos rfl, Nat.add_zero]
      | succ i =>
        rw [h2 i (by simpa using hi), show u + 1 + i = u + (i + 1) by omega]
theorem LInv.commit_view {S : Lg} {gs : List (List Int)} (h : LInv S gs) {ps : List (Int × Bs)} (t : Taken S ps) {n : Nat} (hn : n < S.pages) : (commitT S ps).view n = (lookB ps n).getD (S.view n) := by
  have h1 := h.sz; have h2 := t.fit; have h3 := t.n1
  have ha : (commitT S ps).a = putN S.a (S.used + 2) ((sortP ps).map (·.1)) := by
    show (stepP _ _ _).a = _
    rw [stepP_a]; rfl
  have hnd : ((sortP ps).map (·.1)).Nodup := (((sortP_perm ps).map (·.1)).nodup_iff).2 t.form.1
  obtain ⟨g1, g2⟩ := lookA_putN (k := (n : Int)) ((sortP ps).map (·.1)) S.a (S.used + 2) hnd
  have hm := midT_at S ps (by omega)
  have hc : ∀ j, 1 ≤ j → (commitT S ps).L[j]? = (midT S ps).L[j]? := fun j hj => by
    rw [commitT_mid]
    show ((midT S ps).L.set 0 _)[j]? = _
    rw [List.getElem?_set_ne (by omega)]
  have hpl : ∀ x, lookA (commitT S ps).a n = x → (commitT S ps).place n = match x with | some v => v.toNat | none => S.size + 1 + n := fun x hx => by
    unfold Lg.place
    rw [hx, commitT_size]
    cases x <;> rfl
  by_cases hk : (n : Int) ∈ (sortP ps).map (·.1)
  · obtain ⟨i, hi, ei⟩ := List.mem_iff_getElem.1 hk
    have hi2 : i < (sortP ps).length := by simpa using hi
    have hgi : ((sortP ps).map (·.1))[i]? = some (n : Int) := by rw [List.getElem?_eq_getElem hi, ei]
    have e1 := hpl _ (by rw [ha, g2 i hgi])
    simp only [Int.toNat_natCast] at e1
    have hlb : lookB ps n = some (sortP ps)[i].2 := by
      refine lookB_of t.form.1 ((sortP_perm ps).mem_iff.1 ?_)
      have : ((n : Int), (sortP ps)[i].2) = (sortP ps)[i] := by
        rw [← ei, List.getElem_map]
      rw [this]; exact List.getElem_mem _
    rw [hlb, Option.getD_some]
    unfold Lg.view
    rw [e1, List.getD_eq_getElem?_getD, hc _ (by omega), hm, if_pos ⟨by omega, by rw [sortP_length] at hi2; omega⟩, show S.used + 2 + i - (S.used + 2) = i by omega, List.getElem?_eq_getElem hi2]
    rfl
  · have hlb : lookB ps n = none := lookB_none.2 fun hh => hk (((sortP_perm ps).map (·.1)).mem_iff.2 hh)
    rw [hlb, Option.getD_none]
    have e1 : (commitT S ps).place n = S.place n := by
      rw [hpl _ (by rw [ha, g1 hk])]
      unfold Lg.place
      cases lookA S.a n <;> rfl
    unfold Lg.view
    rw [e1, List.getD_eq_getElem?_getD, List.getD_eq_getElem?_getD]
    rcases h.plc hn with hp | hp
    · rw [hc _ (by omega), hm, if_neg (by omega), if_neg (by omega)]
    · rw [hc _ (by omega), hm, if_neg (by omega), if_neg (by omega)]
/-! ### The cache -/
structure Pg where
  S : Lg
  most : Nat
  dirty : List (Int × Bs)
  clean : List (Int × Bs)
  row : List Int
  pins : List Int
  hits : Nat
  misses : Nat
structure POk (P : Pg) (gs : List (List Int)) : Prop where
  i : LInv P.S gs
  dn : (P.dirty.map (·.1)).Nodup
  da : ∀ x ∈ P.dirty, (0 ≤ x.1 ∧ x.1 < P.S.pages) ∧ x.2.length = 256
  dl : P.dirty.length ≤ 100
  cn : (P.clean.map (·.1)).Nodup
  ca : ∀ x ∈ P.clean, (0 ≤ x.1 ∧ x.1 < P.S.pages) ∧ x.2 = P.S.view x.1.toNat
  cd : ∀ x ∈ P.clean, x.1 ∉ P.dirty.map (·.1)
  rn : P.row.Nodup
  rc : ∀ n, n ∈ P.row ↔ n ∈ P.clean.map (·.1)
  rl : P.row.length ≤ P.most
  pn : P.pins.Nodup
  pl : P.pins.length ≤ P.most
  m1 : 1 ≤ P.most
  m2 : P.most ≤ 64
def dropP (P : Pg) (n : Int) : Pg := { P with row := P.row.filter fun k => !decide (k = n), clean := delB P.clean n }
def lookE (P : Pg) (n : Int) : Int := if n < 0 ∨ (P.S.pages : Int) ≤ n then 2 else 0
def useB (P : Pg) (n : Int) : Bs := (lookB P.clean n).getD (P.S.view n.toNat)
def use1 (P : Pg) (n : Int) : Pg := if (lookB P.clean n).isSome then { P with hits := P.hits + 1 } else { P with misses := P.misses + 1 }
def use2 (P : Pg) (n : Int) : Pg :=
  let P1 := dropP (use1 P n) n
  { P1 with row := P1.row ++ [n], clean := putB P1.clean n (useB P n) }
def useP (P : Pg) (n : Int) : Pg :=
  if P.most < (use2 P n).row.length then
    match (use2 P n).row.find? fun k => !decide (k ∈ P.pins) with
    | some k => dropP (use2 P n) k
    | none => use2 P n
  else use2 P n
def readB (P : Pg) (n : Int) : Bs := match lookB P.dirty n with
  | some b => b
  | none => useB P n
def readP (P : Pg) (n : Int) : Pg := if lookE P n = 0 then (if (lookB P.dirty n).isSome then P else useP P n) else P
def writeE (P : Pg) (n : Int) (b : Bs) : Int := if lookE P n ≠ 0 then 2 else if b.length ≠ 256 then 3 else if n ∉ P.dirty.map (·.1) ∧ 100 ≤ P.dirty.length then 6 else 0
def writeT (P : Pg) (n : Int) (b : Bs) : Pg :=
  let P1 := dropP { P with dirty := putB P.dirty n b } n
  { P1 with pins := P1.pins.filter fun k => !decide (k = n) }
def writeP (P : Pg) (n : Int) (b : Bs) : Pg := if writeE P n b = 0 then writeT P n b else P
def comS (S : Lg) (ps : List (Int × Bs)) : Lg := if errC S ps = 7 then commitS (checkS S) ps else commitS S ps
def comE (S : Lg) (ps : List (Int × Bs)) : Int := if errC S ps = 7 then errC (checkS S) ps else errC S ps
def comP (P : Pg) : Pg := { P with S := comS P.S P.dirty, dirty := if comE P.S P.dirty = 0 then [] else P.dirty }
theorem filter_nodup {l : List Int} (n : Int) (h : l.Nodup) : (l.filter fun k => !decide (k = n)).Nodup := h.sublist List.filter_sublist
theorem filter_mem {l : List Int} {n k : Int} : k ∈ (l.filter fun k => !decide (k = n)) ↔ k ≠ n ∧ k ∈ l := by
  rw [List.mem_filter]
  simp only [Bool.not_eq_true', decide_eq_false_iff_not]
  exact And.comm
theorem filter_less {l : List Int} {n : Int} (h : n ∈ l) : (l.filter fun k => !decide (k = n)).length < l.length := by
  induction l with
  | nil => simp at h
  | cons x l ih =>
    rw [List.filter_cons]
    by_cases e : x = n
    · rw [if_neg (by simp [e])]
      have := List.length_filter_le (fun k => !decide (k = n)) l
      simp only [List.length_cons]; omega
    · rw [if_pos (by simp [e])]
      have := ih (by rcases List.mem_cons.1 h with h | h; exact absurd h.symm e; exact h)
      simp only [List.length_cons]; omega
theorem POk.drop {P : Pg} {gs : List (List Int)} (h : POk P gs) (n : Int) : POk (dropP P n) gs := by
  refine ⟨h.i, h.dn, h.da, h.dl, delB_nodup h.cn, fun x hx => h.ca x (delB_mem hx), fun x hx => h.cd x (delB_mem hx), filter_nodup n h.rn, fun k => ?_, Nat.le_trans (List.length_filter_le _ _) h.rl, h.pn, h.pl, h.m1, h.m2⟩
  show k ∈ (P.row.filter fun k => !decide (k = n)) ↔ k ∈ (delB P.clean n).map (·.1)
  rw [filter_mem, delB_keys h.cn, h.rc]
theorem POk.useB {P : Pg} {gs : List (List Int)} (h : POk P gs) {n : Int} (h0 : 0 ≤ n) : useB P n = P.S.view n.toNat := by
  unfold Go.Proofs.YtfaeklinhchidaaGreat.useB
  cases e : lookB P.clean n with
  | none => rfl
  | some b => exact (h.ca _ (lookB_mem e)).2
theorem pins_room {P : Pg} {gs : List (List Int)} (h : POk P gs) {l : List Int} (hn : l.Nodup) (hl : P.most < l.length) : ∃ k, (l.find? fun k => !decide (k ∈ P.pins)) = some k := by
  cases e : l.find? fun k => !decide (k ∈ P.pins) with
  | some k => exact ⟨k, rfl⟩
  | none =>
    exfalso
    have hall : ∀ k ∈ l, k ∈ P.pins := fun k hk => by
      have := List.find?_eq_none.1 e k hk
      simpa using this
    have key : ∀ (a b : List Int), a.Nodup → (∀ k ∈ a, k ∈ b) → a.length ≤ b.length := by
      intro a
      induction a with
      | nil => intro b _ _; simp
      | cons x a ih =>
        intro b hn hs
        rw [List.nodup_cons] at hn
        have hx := hs x (by simp)
        have h1 := ih (b.filter fun k => !decide (k = x)) hn.2 fun k hk => filter_mem.2 ⟨fun e => hn.1 (e ▸ hk), hs k (by simp [hk])⟩
        have h2 := filter_less hx
        simp only [List.length_cons]; omega
    have := key l P.pins hn hall
    have := h.pl
    omega
theorem POk.use2 {P : Pg} {gs : List (List Int)} (h : POk P gs) {n : Int} (h0 : 0 ≤ n) (h1 : n < P.S.pages) (hd : n ∉ P.dirty.map (·.1)) (hl : (use2 P n).row.length ≤ P.most) : POk (use2 P n) gs := by
  have e1 : (use1 P n).clean = P.clean ∧ (use1 P n).row = P.row ∧ (use1 P n).S = P.S ∧ (use1 P n).dirty = P.dirty ∧ (use1 P n).pins = P.pins ∧ (use1 P n).most = P.most := by
    unfold use1; split <;> exact ⟨rfl, rfl, rfl, rfl, rfl, rfl⟩
  obtain ⟨c1, c2, c3, c4, c5, c6⟩ := e1
  have hc : (Go.Proofs.YtfaeklinhchidaaGreat.use2 P n).clean = putB (delB P.clean n) n (Go.Proofs.YtfaeklinhchidaaGreat.useB P n) := by show putB (delB (use1 P n).clean n) n _ = _; rw [c1]
  have hr : (Go.Proofs.YtfaeklinhchidaaGreat.use2 P n).row = (P.row.filter fun k => !decide (k = n)) ++ [n] := by show ((use1 P n).row.filter _) ++ [n] = _; rw [c2]
  have hS : (Go.Proofs.YtfaeklinhchidaaGreat.use2 P n).S = P.S := c3
  have hD : (Go.Proofs.YtfaeklinhchidaaGreat.use2 P n).dirty = P.dirty := c4
  have hP : (Go.Proofs.YtfaeklinhchidaaGreat.use2 P n).pins = P.pins := c5
  have hM : (Go.Proofs.YtfaeklinhchidaaGreat.use2 P n).most = P.most := c6
  refine ⟨by rw [hS]; exact h.i, by rw [hD]; exact h.dn, by rw [hD, hS]; exact h.da, by rw [hD]; exact h.dl, ?_, ?_, ?_, ?_, ?_, by rw [hM]; exact hl, by rw [hP]; exact h.pn, by rw [hP, hM]; exact h.pl, by rw [hM]; exact h.m1, by rw [hM]; exact h.m2⟩
  · rw [hc]; exact putB_nodup (delB_nodup h.cn)
  · rw [hc, hS]
    intro x hx
    rcases putB_mem hx with rfl | hx
    · exact ⟨⟨h0, h1⟩, h.useB h0⟩
    · exact h.ca x (delB_mem hx)
  · rw [hc, hD]
    intro x hx
    rcases putB_mem hx with rfl | hx
    · exact hd
    · exact h.cd x (delB_mem hx)
  · rw [hr, List.nodup_append]
    refine ⟨filter_nodup n h.rn, by simp, fun a ha b hb e => ?_⟩
    simp only [List.mem_singleton] at hb
    exact (filter_mem.1 ha).1 (e.trans hb)
  · intro k
    rw [hr, hc, putB_keys, delB_keys h.cn, List.mem_append, filter_mem, h.rc, List.mem_singleton]
    constructor
    · rintro (h | h)
      · exact .inr h
      · exact .inl h
    · rintro (h | h)
      · exact .inr h
      · exact .inl h
theorem use2_row {P : Pg} {n : Int} : (use2 P n).row = (P.row.filter fun k => !decide (k = n)) ++ [n] := by
  show ((use1 P n).row.filter _) ++ [n] = _
  unfold use1; split <;> rfl
theorem use2_same {P : Pg} {n : Int} : (use2 P n).S = P.S ∧ (use2 P n).dirty = P.dirty ∧ (use2 P n).pins = P.pins ∧ (use2 P n).most = P.most := by
  unfold use2 dropP use1; split <;> exact ⟨rfl, rfl, rfl, rfl⟩
theorem useP_same {P : Pg} {n : Int} : (useP P n).S = P.S ∧ (useP P n).dirty = P.dirty ∧ (useP P n).pins = P.pins ∧ (useP P n).most = P.most := by
  unfold useP
  split
  · split
    · exact use2_same (P := P) (n := n)
    · exact use2_same
  · exact use2_same
theorem POk.useP {P : Pg} {gs : List (List Int)} (h : POk P gs) {n : Int} (h0 : 0 ≤ n) (h1 : n < P.S.pages) (hd : n ∉ P.dirty.map (·.1)) : POk (useP P n) gs := by
  unfold Go.Proofs.YtfaeklinhchidaaGreat.useP
  by_cases hl : P.most < (Go.Proofs.YtfaeklinhchidaaGreat.use2 P n).row.length
  · rw [if_pos hl]
    have hrn : (Go.Proofs.YtfaeklinhchidaaGreat.use2 P n).row.Nodup := by
      rw [use2_row, List.nodup_append]
      refine ⟨filter_nodup n h.rn, by simp, fun a ha b hb e => ?_⟩
      simp only [List.mem_singleton] at hb
      exact (filter_mem.1 ha).1 (e.trans hb)
    obtain ⟨k, hk⟩ := pins_room h hrn hl
    rw [hk]
    -- as if there were room for one more
    have h' : POk { P with most := P.most + 1 } gs → True := fun _ => trivial
    have hlen : (Go.Proofs.YtfaeklinhchidaaGreat.use2 P n).row.length ≤ P.most + 1 := by
      rw [use2_row, List.length_append]
      have := List.length_filter_le (fun k => !decide (k = n)) P.row
      have := h.rl
      simp only [List.length_cons, List.length_nil]; omega
    have hmem : k ∈ (Go.Proofs.YtfaeklinhchidaaGreat.use2 P n).row := List.mem_of_find?_eq_some hk
    have hless := filter_less hmem
    obtain ⟨s1, s2, s3, s4⟩ := use2_same (P := P) (n := n)
    have e1 : (Go.Proofs.YtfaeklinhchidaaGreat.use2 P n).clean = putB (delB P.clean n) n (Go.Proofs.YtfaeklinhchidaaGreat.useB P n) := by
      show putB (delB (use1 P n).clean n) n _ = _
      unfold use1; split <;> rfl
    have hcn : ((Go.Proofs.YtfaeklinhchidaaGreat.use2 P n).clean.map (·.1)).Nodup := by rw [e1]; exact putB_nodup (delB_nodup h.cn)
    refine ⟨by show LInv (Go.Proofs.YtfaeklinhchidaaGreat.use2 P n).S gs; rw [s1]; exact h.i, by show ((Go.Proofs.YtfaeklinhchidaaGreat.use2 P n).dirty.map _).Nodup; rw [s2]; exact h.dn, ?_, by show (Go.Proofs.YtfaeklinhchidaaGreat.use2 P n).dirty.length ≤ 100; rw [s2]; exact h.dl, delB_nodup hcn, ?_, ?_, filter_nodup k hrn, ?_, ?_, by show (Go.Proofs.YtfaeklinhchidaaGreat.use2 P n).pins.Nodup; rw [s3]; exact h.pn, by show (Go.Proofs.YtfaeklinhchidaaGreat.use2 P n).pins.length ≤ (Go.Proofs.YtfaeklinhchidaaGreat.use2 P n).most; rw [s3, s4]; exact h.pl, by show 1 ≤ (Go.Proofs.YtfaeklinhchidaaGreat.use2 P n).most; rw [s4]; exact h.m1, by show (Go.Proofs.YtfaeklinhchidaaGreat.use2 P n).most ≤ 64; rw [s4]; exact h.m2⟩
    · intro x hx
      have hx : x ∈ (Go.Proofs.YtfaeklinhchidaaGreat.use2 P n).dirty := hx
      rw [s2] at hx
      show (_ ∧ x.1 < ((Go.Proofs.YtfaeklinhchidaaGreat.use2 P n).S.pages : Int)) ∧ _
      rw [s1]; exact h.da x hx
    · intro x hx
      have hx : x ∈ (Go.Proofs.YtfaeklinhchidaaGreat.use2 P n).clean := delB_mem hx
      show (_ ∧ x.1 < ((Go.Proofs.YtfaeklinhchidaaGreat.use2 P n).S.pages : Int)) ∧ x.2 = (Go.Proofs.YtfaeklinhchidaaGreat.use2 P n).S.view _
      rw [e1] at hx
      rw [s1]
      rcases putB_mem hx with rfl | hx
      · exact ⟨⟨h0, h1⟩, h.useB h0⟩
      · exact h.ca x (delB_mem hx)
    · intro x hx
      have hx : x ∈ (Go.Proofs.YtfaeklinhchidaaGreat.use2 P n).clean := delB_mem hx
      show x.1 ∉ (Go.Proofs.YtfaeklinhchidaaGreat.use2 P n).dirty.map _
      rw [e1] at hx
      rw [s2]
      rcases putB_mem hx with rfl | hx
      · exact hd
      · exact h.cd x (delB_mem hx)
    · intro j
      show j ∈ ((Go.Proofs.YtfaeklinhchidaaGreat.use2 P n).row.filter _) ↔ j ∈ (delB (Go.Proofs.YtfaeklinhchidaaGreat.use2 P n).clean k).map _
      rw [filter_mem, delB_keys hcn, e1, putB_keys, delB_keys h.cn, use2_row, List.mem_append, filter_mem, h.rc, List.mem_singleton]
      constructor
      · rintro ⟨a, b | b⟩
        · exact ⟨a, .inr b⟩
        · exact ⟨a, .inl b⟩
      · rintro ⟨a, b | b⟩
        · exact ⟨a, .inr b⟩
        · exact ⟨a, .inl b⟩
    · show ((Go.Proofs.YtfaeklinhchidaaGreat.use2 P n).row.filter _).length ≤ (Go.Proofs.YtfaeklinhchidaaGreat.use2 P n).most
      rw [s4]; omega
  · rw [if_neg hl]
    exact h.use2 h0 h1 hd (by omega)
theorem writeE_zero {P : Pg} {n : Int} {b : Bs} (he : writeE P n b = 0) : (0 ≤ n ∧ n < P.S.pages) ∧ b.length = 256 ∧ ¬ (n ∉ P.dirty.map (·.1) ∧ 100 ≤ P.dirty.length) := by
  unfold writeE at he
  by_cases h1 : lookE P n ≠ 0
  · rw [if_pos h1] at he; exact absurd he (by decide)
  rw [if_neg h1] at he
  by_cases h2 : b.length ≠ 256
  · rw [if_pos h2] at he; exact absurd he (by decide)
  rw [if_neg h2] at he
  by_cases h3 : n ∉ P.dirty.map (·.1) ∧ 100 ≤ P.dirty.length
  · rw [if_pos h3] at he; exact absurd he (by decide)
  refine ⟨?_, by omega, h3⟩
  have h1 : lookE P n = 0 := by simpa using h1
  unfold lookE at h1
  by_cases h4 : n < 0 ∨ (P.S.pages : Int) ≤ n
  · rw [if_pos h4] at h1; exact absurd h1 (by decide)
  · omega
theorem POk.write {P : Pg} {gs : List (List Int)} (h : POk P gs) {n : Int} {b : Bs} (he : writeE P n b = 0) : POk (writeT P n b) gs := by
  obtain ⟨h1, h2, h3⟩ := writeE_zero he
  refine ⟨h.i, putB_nodup h.dn, fun x hx => ?_, ?_, delB_nodup h.cn, fun x hx => h.ca x (delB_mem hx), fun x hx => ?_, filter_nodup n h.rn, fun k => ?_, Nat.le_trans (List.length_filter_le _ _) h.rl, filter_nodup n h.pn, Nat.le_trans (List.length_filter_le _ _) h.pl, h.m1, h.m2⟩
  · rcases putB_mem hx with rfl | hx
    · exact ⟨h1, h2⟩
    · exact h.da x hx
  · show (putB P.dirty n b).length ≤ 100
    rw [putB_len]
    split
    · exact h.dl
    · rename_i hh
      have : ¬ 100 ≤ P.dirty.length := fun e => h3 ⟨hh, e⟩
      omega
  · show x.1 ∉ (putB P.dirty n b).map _
    rw [putB_keys]
    have hx2 : x.1 ∈ (delB P.clean n).map (·.1) := List.mem_map_of_mem hx
    rintro (e | e)
    · exact ((delB_keys h.cn).1 hx2).1 e
    · exact h.cd x (delB_mem hx) e
  · show k ∈ (P.row.filter fun k => !decide (k = n)) ↔ k ∈ (delB P.clean n).map (·.1)
    rw [filter_mem, delB_keys h.cn, h.rc]
/-! ### Commits -/
theorem check_pages (S : Lg) : (checkS S).pages = S.pages := by
  unfold checkS; split
  · rfl
  · exact checkT_pages S
theorem check_size (S : Lg) : (checkS S).size = S.size := by
  unfold checkS; split
  · rfl
  · exact checkT_size S
theorem check_used0 (S : Lg) : (checkS S).used = 0 := by
  unfold checkS; split
  · assumption
  · rfl
theorem LInv.checkS {S : Lg} {gs : List (List Int)} (h : LInv S gs) : ∃ gs', LInv (checkS S) gs' := by
  unfold Go.Proofs.YtfaeklinhchidaaGreat.checkS; split
  · exact ⟨gs, h⟩
  · exact ⟨[], h.check⟩
theorem LInv.checkS_view {S : Lg} {gs : List (List Int)} (h : LInv S gs) (n : Nat) : (Go.Proofs.YtfaeklinhchidaaGreat.checkS S).view n = S.view n := by
  unfold Go.Proofs.YtfaeklinhchidaaGreat.checkS; split
  · rfl
  · exact h.check_view n
theorem LInv.commitS {S : Lg} {gs : List (List Int)} (h : LInv S gs) (ps : List (Int × Bs)) : ∃ gs', LInv (commitS S ps) gs' := by
  unfold Go.Proofs.YtfaeklinhchidaaGreat.commitS; split
  · rename_i hx; exact ⟨_, h.commit (errC_zero hx.1 hx.2)⟩
  · exact ⟨gs, h⟩
theorem commit_pages (S : Lg) (ps : List (Int × Bs)) : (commitS S ps).pages = S.pages := by
  unfold commitS; split
  · exact commitT_pages S ps
  · rfl
theorem commit_size (S : Lg) (ps : List (Int × Bs)) : (commitS S ps).size = S.size := by
  unfold commitS; split
  · exact commitT_size S ps
  · rfl
/-- What a group leaves to be read. -/
theorem LInv.commitS_view {S : Lg} {gs : List (List Int)} (h : LInv S gs) {ps : List (Int × Bs)} {n : Nat} (hn : n < S.pages) : (Go.Proofs.YtfaeklinhchidaaGreat.commitS S ps).view n = if errC S ps = 0 then (lookB ps n).getD (S.view n) else S.view n := by
  unfold Go.Proofs.YtfaeklinhchidaaGreat.commitS
  by_cases he : errC S ps = 0
  · rw [if_pos he]
    by_cases hz : ps = []
    · rw [if_neg (fun e => e.2 hz), hz]; rfl
    · rw [if_pos ⟨he, hz⟩]
      exact h.commit_view (errC_zero he hz) hn
  · rw [if_neg he, if_neg (fun e => he e.1)]
theorem LInv.com {S : Lg} {gs : List (List Int)} (h : LInv S gs) (ps : List (Int × Bs)) : ∃ gs', LInv (comS S ps) gs' := by
  unfold comS; split
  · obtain ⟨_, h'⟩ := h.checkS
    exact h'.commitS ps
  · exact h.commitS ps
theorem com_pages (S : Lg) (ps : List (Int × Bs)) : (comS S ps).pages = S.pages := by
  unfold comS; split
  · rw [commit_pages, check_pages]
  · exact commit_pages S ps
theorem com_size (S : Lg) (ps : List (Int × Bs)) : (comS S ps).size = S.size := by
  unfold comS; split
  · rw [commit_size, check_size]
  · exact commit_size S ps
theorem LInv.com_view {S : Lg} {gs : List (List Int)} (h : LInv S gs) {ps : List (Int × Bs)} {n : Nat} (hn : n < S.pages) : (comS S ps).view n = if comE S ps = 0 then (lookB ps n).getD (S.view n) else S.view n := by
  unfold comS comE
  by_cases h7 : errC S ps = 7
  · rw [if_pos h7, if_pos h7]
    obtain ⟨_, h'⟩ := h.checkS
    rw [h'.commitS_view (by rw [check_pages]; exact hn), h.checkS_view]
  · rw [if_neg h7, if_neg h7]
    exact h.commitS_view hn
theorem POk.com {P : Pg} {gs : List (List Int)} (h : POk P gs) : ∃ gs', POk (comP P) gs' := by
  obtain ⟨gs', i'⟩ := h.i.com P.dirty
  have hpg : (comP P).S.pages = P.S.pages := com_pages _ _
  have hsub : ∀ x ∈ (comP P).dirty, x ∈ P.dirty := fun x hx => by
    unfold comP at hx
    simp only at hx
    split at hx
    · cases hx
    · exact hx
  refine ⟨gs', i', ?_, fun x hx => by rw [hpg]; exact h.da x (hsub x hx), ?_, h.cn, fun x hx => ?_, fun x hx hd => ?_, h.rn, h.rc, h.rl, h.pn, h.pl, h.m1, h.m2⟩
  · unfold comP; simp only; split
    · simp
    · exact h.dn
  · unfold comP; simp only; split
    · simp
    · exact h.dl
  · have hx : x ∈ P.clean := hx
    have hc := h.ca x hx
    refine ⟨by rw [hpg]; exact hc.1, ?_⟩
    have hlt : x.1.toNat < P.S.pages := by omega
    show x.2 = (comS P.S P.dirty).view _
    rw [h.i.com_view hlt, hc.2]
    have hno : lookB P.dirty (x.1.toNat : Int) = none := lookB_none.2 (by rw [Int.toNat_of_nonneg hc.1.1]; exact h.cd x hx)
    rw [hno]
    split <;> rfl
  · obtain ⟨y, hy, e⟩ := List.mem_map.1 hd
    exact h.cd x hx (by rw [← e]; exact List.mem_map_of_mem (hsub y hy))
/-- A cache that is new. -/
def newP (S : Lg) (most : Nat) : Pg := ⟨S, most, [], [], [], [], 0, 0⟩
theorem newP_ok {S : Lg} {gs : List (List Int)} (i : LInv S gs) {most : Nat} (h1 : 1 ≤ most) (h2 : most ≤ 64) : POk (newP S most) gs :=
  ⟨i, by simp [newP], fun x hx => by simp [newP] at hx, by simp [newP], by simp [newP], fun x hx => by simp [newP] at hx, fun x hx => by simp [newP] at hx, by simp [newP], fun n => by simp [newP], by simp [newP], by simp [newP], by simp [newP], h1, h2⟩
/-- A page as it is now. -/
def Pg.page (P : Pg) (n : Nat) : Bs := (lookB P.dirty n).getD (P.S.view n)
theorem POk.readB {P : Pg} {gs : List (List Int)} (h : POk P gs) {n : Nat} : readB P n = P.page n := by
  unfold Go.Proofs.YtfaeklinhchidaaGreat.readB Pg.page
  cases e : lookB P.dirty (n : Int) with
  | none =>
    rw [Option.getD_none]
    simp only
    rw [h.useB (by omega), Int.toNat_natCast]
  | some b => rfl
end Go.Proofs.YtfaeklinhchidaaGreat
