/-
  The cache as it is held; New, look, drop.
-/
import Derived.Test.YtfaeklinhchidaaGreatPgrP
import Derived.Test.YtfaeklinhchidaaGreatClears
import Derived.Test.YtfaeklinhchidaaGreatSortK
import Derived.Test.YtfaeklinhchidaaGreatTests
import Derived.Test.YtfaeklinhchidaaGreatWalA
import Derived.Test.YtfaeklinhchidaaGreatTrpF
import Derived.Test.YtfaeklinhchidaaGreatTreA
import Derived.Test.YtfaeklinhchidaaGreatStrs
set_option linter.all false
set_option maxRecDepth 100000
namespace Go.Proofs.YtfaeklinhchidaaGreat
open Go Hold
variable {E : World0} {w : World} {H R X : HP} {K : Value → World → Prop}
/-! ### Maps whose values are bytes -/
def relM (I : Hp) : List (Int × Value) → List (Int × Bs) → Prop
  | [], [] => True
  | q :: ds, x :: D => (q.1 = x.1 ∧ RdS I q.2 x.2.length (x.2.map bv)) ∧ relM I ds D
  | _, _ => False
theorem relM.mono {I J : Hp} (hI : ∀ b o, I b = some o → J b = some o) : ∀ {ds : List (Int × Value)} {D : List (Int × Bs)}, relM I ds D → relM J ds D
  | [], [], _ => trivial
  | q :: ds, x :: D, h => ⟨⟨h.1.1, h.1.2.mono hI⟩, relM.mono hI h.2⟩
  | [], x :: D, h => h.elim
  | q :: ds, [], h => h.elim
def immM (ds : List (Int × Value)) (D : List (Int × Bs)) : PP := ⟨fun I => relM I ds D, fun hI h => h.mono hI⟩
theorem relM.keys {I : Hp} : ∀ {ds : List (Int × Value)} {D : List (Int × Bs)}, relM I ds D → ds.map (·.1) = D.map (·.1)
  | [], [], _ => rfl
  | q :: ds, x :: D, h => by rw [List.map_cons, List.map_cons, h.1.1, relM.keys h.2]
  | [], x :: D, h => h.elim
  | q :: ds, [], h => h.elim
theorem relM.len {I : Hp} {ds : List (Int × Value)} {D : List (Int × Bs)} (h : relM I ds D) : ds.length = D.length := by
  have := congrArg List.length h.keys; simpa using this
theorem relM.put {I : Hp} {k : Int} {v : Value} {b : Bs} (hv : RdS I v b.length (b.map bv)) : ∀ {ds : List (Int × Value)} {D : List (Int × Bs)}, relM I ds D → relM I (putM ds k v) (putB D k b)
  | [], [], _ => ⟨⟨rfl, hv⟩, trivial⟩
  | q :: ds, x :: D, h => by
    unfold putM putB
    rw [h.1.1]
    split
    · exact ⟨⟨rfl, hv⟩, h.2⟩
    · exact ⟨h.1, relM.put hv h.2⟩
  | [], x :: D, h => h.elim
  | q :: ds, [], h => h.elim
theorem relM.del {I : Hp} {k : Int} : ∀ {ds : List (Int × Value)} {D : List (Int × Bs)}, relM I ds D → relM I (delM ds k) (delB D k)
  | [], [], _ => trivial
  | q :: ds, x :: D, h => by
    unfold delM delB
    rw [h.1.1]
    split
    · exact h.2
    · exact ⟨h.1, relM.del h.2⟩
  | [], x :: D, h => h.elim
  | q :: ds, [], h => h.elim
theorem relM.look {I : Hp} {k : Int} : ∀ {ds : List (Int × Value)} {D : List (Int × Bs)}, relM I ds D → (lookM ds k = none ∧ lookB D k = none) ∨ ∃ v b, lookM ds k = some v ∧ lookB D k = some b ∧ RdS I v b.length (b.map bv)
  | [], [], _ => .inl ⟨rfl, rfl⟩
  | q :: ds, x :: D, h => by
    have ih := relM.look (k := k) h.2
    unfold lookM at ih ⊢
    simp only [findM, lookB, h.1.1]
    by_cases e : k = x.1
    · rw [if_pos e, if_pos e]
      exact .inr ⟨q.2, x.2, rfl, rfl, h.1.2⟩
    · rw [if_neg e, if_neg e, Option.map_map]
      exact ih
  | [], x :: D, h => h.elim
  | q :: ds, [], h => h.elim
theorem relM.mem {I : Hp} : ∀ {ds : List (Int × Value)} {D : List (Int × Bs)}, relM I ds D → ∀ q ∈ ds, ∃ b, (q.1, b) ∈ D ∧ RdS I q.2 b.length (b.map bv)
  | [], [], _, q, hq => by simp at hq
  | y :: ds, x :: D, h, q, hq => by
    rcases List.mem_cons.1 hq with rfl | hq
    · exact ⟨x.2, by rw [h.1.1]; simp, h.1.2⟩
    · obtain ⟨b, hb, hr⟩ := relM.mem h.2 q hq
      exact ⟨b, List.mem_cons_of_mem _ hb, hr⟩
  | [], x :: D, h, _, _ => h.elim
  | q :: ds, [], h, _, _ => h.elim
theorem look_d (h : sat E w H) {t kt vt b : Nat} {l : List (Int × Value)} {k : Int} {z : Value} [i : Ul prog t (.map kt vt)] [j : Ul prog kt (.int .i64)] [q : ZeroC prog vt z] [s : OwnM H b l R]
    (kk : K (.tuple #[(lookM l k).getD z, .bool (lookM l k).isSome]) w) : ldv prog (Instr.lookup t (.map (some b)) (.int .i64 k) true) w K := by
  refine look_ld h ?_
  cases e : lookM l k with
  | none => rw [e] at kk; exact kk
  | some v => rw [e] at kk; exact kk
def pinsM (l : List Int) : List (Int × Value) := l.map fun n => (n, .bool true)
theorem pinsM_del {n : Int} : ∀ {l : List Int}, l.Nodup → delM (pinsM l) n = pinsM (l.filter fun k => !decide (k = n))
  | [], _ => rfl
  | x :: l, h => by
    rw [List.nodup_cons] at h
    have ih := pinsM_del (n := n) h.2
    unfold pinsM at ih ⊢
    simp only [List.map_cons, delM, List.filter_cons]
    by_cases e : n = x
    · rw [if_pos e, if_neg (by simp [e])]
      subst e
      have : l.filter (fun k => !decide (k = n)) = l := List.filter_eq_self.2 fun k hk => by simpa using fun (e : k = n) => h.1 (by rw [← e]; exact hk)
      rw [this]
    · rw [if_neg e, if_pos (by simp; exact fun e2 => e e2.symm), ih]; rfl
theorem pinsM_look {n : Int} : ∀ {l : List Int}, lookM (pinsM l) n = if n ∈ l then some (.bool true) else none
  | [] => rfl
  | x :: l => by
    have ih := pinsM_look (n := n) (l := l)
    unfold lookM pinsM at ih ⊢
    simp only [List.map_cons, findM]
    by_cases e : n = x
    · simp [e]
    · rw [if_neg e, Option.map_map]
      have : (n ∈ x :: l) ↔ n ∈ l := by simp [e]
      simp only [this]
      exact ih
/-! ### The cache -/
structure Ad where
  q : Nat
  p : Nat
  d : Nat
  b : Nat
  dm : Nat
  cm : Nat
  pm : Nat
def pcells (P : Pg) (A : Ad) (rv : Value) : List Value := [.pointer (some ⟨A.p, 0, none⟩), .int .i64 P.most, .map (some A.dm), .map (some A.cm), rv, .map (some A.pm), .int .i64 P.hits, .int .i64 P.misses]
def pgr (A : Ad) (P : Pg) : HP := ex fun t : Value × List (Int × Value) × List (Int × Value) =>
  pts A.q (.cells (pcells P A t.1).toArray 119 (0, 0)) * (omap A.dm t.2.1 * (omap A.cm t.2.2 * (omap A.pm (pinsM P.pins) * (osl 3 1 t.1 P.row.length (P.row.map iv) * (pers (immM t.2.1 P.dirty) * (pers (immM t.2.2 P.clean) *
  (pts A.p (.cells (lcells P.S A.d A.b).toArray 114 (0, 0)) * (dsk A.d P.S.L P.S.W * omap A.b (mpA P.S.a)))))))))
theorem sat_pgr {A : Ad} {P : Pg} : sat E w (pgr A P * R) ↔ ∃ rv ds cs, sat E w (pts A.q (.cells (pcells P A rv).toArray 119 (0, 0)) * (omap A.dm ds * (omap A.cm cs * (omap A.pm (pinsM P.pins) * (osl 3 1 rv P.row.length (P.row.map iv) * (pers (immM ds P.dirty) * (pers (immM cs P.clean) * lgI A.p A.d A.b P.S R))))))) := by
  unfold pgr
  rw [sat_ex_star]
  constructor
  · rintro ⟨⟨rv, ds, cs⟩, h⟩
    exact ⟨rv, ds, cs, h.perm (by unfold lgI; ac_rfl)⟩
  · rintro ⟨rv, ds, cs, h⟩
    exact ⟨⟨rv, ds, cs⟩, h.perm (by unfold lgI; ac_rfl)⟩
theorem PNew_spec {p d b : Nat} {S : Lg} (h : sat E w (lgI p d b S R)) {most : Nat} (h1 : 1 ≤ most) (h2 : most ≤ 64) (k : ∀ A w', A.p = p → sat E w' (pgr A (newP S most) * R) → K (.tuple #[.pointer (some ⟨A.q, 0, none⟩), .int .i64 0]) w') :
    Calls prog 16 #[.pointer (some ⟨p, 0, none⟩), .int .i64 most] w (Ret K) := by
  refine c16 ?_
  unfold B16
  have e1 : ¬ (most : Int) < 1 := by omega
  have e2 : ¬ (64 : Int) < (most : Int) := by omega
  simp only [e1, e2, ↓opsA, opsB, if_true, if_false, ↓reduceIte]
  refine make_map h fun dm w h => ?_
  refine make_map h fun cm w h => ?_
  refine make_map h fun pm w h => ?_
  refine pvv_of (v := .agg (pcells (newP S most) ⟨0, p, d, b, dm, cm, pm⟩ (.slice none 0 0)).toArray) (fun w => by kernel_rfl) ?_
  refine box_sl h fun q w h => ?_
  have h : sat E w (pts q (.cells (pcells (newP S most) ⟨q, p, d, b, dm, cm, pm⟩ (.slice none 0 0)).toArray 119 (0, 0)) * (omap pm [] * (omap cm [] * (omap dm [] * lgI p d b S R)))) := h
  refine k ⟨q, p, d, b, dm, cm, pm⟩ w rfl (sat_pgr.2 ⟨.slice none 0 0, [], [], ?_⟩)
  have h := osl_nil h 3 1
  have hi : ∀ {w : World} {Y : HP}, sat E w Y → sat E w (pers (immM [] []) * Y) := fun h => h.mono fun I h' hp' => (pers_star_p _ _ _ _).2 ⟨trivial, hp'⟩
  have h := hi (hi h)
  exact h.perm (by show _ = pts q _ * (omap dm [] * (omap cm [] * (omap pm [] * (osl 3 1 (.slice none 0 0) 0 [] * (pers (immM [] []) * (pers (immM [] []) * lgI p d b S R)))))); ac_rfl)
theorem look_spec {A : Ad} {P : Pg} {gs : List (List Int)} (ok : POk P gs) (h : sat E w (pgr A P * R)) {n : Int} (k : ∀ w', sat E w' (pgr A P * R) → K (.int .i64 (lookE P n)) w') : Calls prog 63 #[.pointer (some ⟨A.q, 0, none⟩), .int .i64 n] w (Ret K) := by
  have hsz := ok.i.sz; have hle := ok.i.wf.le
  refine c63 ?_
  unfold B63
  unfold lookE at k
  by_cases h1 : n < 0
  · rw [if_pos (.inl h1)] at k
    simp only [h1, ↓opsA, opsB, if_true, if_false, ↓reduceIte]
    exact k w h
  obtain ⟨rv, ds, cs, h⟩ := sat_pgr.1 h
  simp only [h1, ↓opsA, opsB, if_true, if_false, ↓reduceIte]
  unfold pcells at h
  refine ld_at h ?_
  have h := h.perm (show _ = lgI A.p A.d A.b P.S (pts A.q (.cells (pcells P A rv).toArray 119 (0, 0)) * (omap A.dm ds * (omap A.cm cs * (omap A.pm (pinsM P.pins) * (osl 3 1 rv P.row.length (P.row.map iv) * (pers (immM ds P.dirty) * (pers (immM cs P.clean) * R))))))) by unfold lgI pcells; ac_rfl)
  refine Pages_spec h (by omega) hle fun w h => ?_
  have h := sat_pgr.2 ⟨rv, ds, cs, h.perm (by unfold lgI; ac_rfl)⟩
  by_cases h2 : (P.S.pages : Int) ≤ n
  · rw [if_pos (.inr h2)] at k
    simp only [h2, ↓opsA, opsB, if_true, if_false, ↓reduceIte]
    exact k w h
  · rw [if_neg (by omega)] at k
    simp only [h2, ↓opsA, opsB, if_true, if_false, ↓reduceIte]
    exact k w h
/-! ### drop -/
theorem IndexI_spec (h : sat E w H) {v f : Value} {l : List Int} {p : Int → Bool} (hv : Rds H v l.length (l.map iv)) (hl : l.length ≤ 100000)
    (hf : ∀ (x : Int) (w : World) (K' : Value → World → Prop), sat E w H → (∀ w', sat E w' H → K' (.bool (p x)) w') → ef prog (oCall f #[.int .i64 x]) w K')
    (k0 : (∀ x ∈ l, p x = false) → ∀ w', sat E w' H → K (.int .i64 (-1)) w') (k1 : ∀ i (hi : i < l.length), p l[i] = true → (∀ x ∈ l.take i, p x = false) → ∀ w', sat E w' H → K (.int .i64 i) w') : Calls prog 101 #[v, f] w (Ret K) := by
  obtain ⟨a, c, rfl, hc, hv, _⟩ := hv.shape h
  refine c101 ?_
  unfold B101
  simp only [↓opsA, opsB, if_true, if_false, ↓reduceIte]
  refine lp_nat (fun q σ w => ∃ i : Nat, σ = [.int .i64 i] ∧ q = l.length - i ∧ i ≤ l.length ∧ (∀ x ∈ l.take i, p x = false) ∧ sat E w H) l.length ⟨0, rfl, rfl, by omega, by simp, h⟩ ?_
  rintro q σ w again ⟨i, rfl, rfl, hi, hz, h⟩ hag
  try simp only [↓opsA, opsB, if_true, if_false, ↓reduceIte]
  refine cd_dec (fun hlt => ?_) (fun hge => ?_)
  · have hlt : i < l.length := by omega
    obtain ⟨b1, o1, rfl, hb1⟩ := win_cell (hv.win h) (j := i) (by simpa using hlt)
    rw [o_index (by omega) (by omega)]
    simp only [Int.toNat_natCast, Nat.mul_one]
    refine ld_cell hb1 ?_
    rw [List.getElem_map]
    refine hf l[i] w _ h fun w h => ?_
    cases hp : p l[i] with
    | true =>
      rw [cd_true]
      exact k1 i hlt hp hz w h
    | false =>
      rw [cd_false]
      try simp only [↓opsA, opsB, if_true, if_false, ↓reduceIte]
      rw [i64_of (by omega) (by omega)]
      refine hag (l.length - (i + 1)) _ _ (by omega) ⟨i + 1, rfl, rfl, by omega, fun x hx => ?_, h⟩
      rw [List.take_succ_eq_append_getElem hlt] at hx
      rcases List.mem_append.1 hx with hx | hx
      · exact hz x hx
      · simp at hx; rw [hx]; exact hp
  · have : i = l.length := by omega
    subst this
    rw [List.take_length] at hz
    exact k0 hz w h
theorem eqN_spec (h : sat E w H) {nb : Nat} {x n : Int} [s : Has H nb (.cells [Value.int .i64 n].toArray 3 (0, 0))] (k : K (.bool (decide (x = n))) w) : ef prog (oCall (.func (.func 129) #[] #[.pointer (some ⟨nb, 0, none⟩)]) #[.int .i64 x]) w K := by
  refine oCall_body Tryz.func129 (by kernel_rfl) (by kernel_rfl) ?_
  refine c129 ?_
  unfold B129
  refine ld_at h ?_
  simp only [↓opsA, opsB, if_true, if_false, ↓reduceIte]
  exact k
theorem DeleteFunc_spec {v : Value} {l : List Int} {n : Int} {nb : Nat} (hl : l.length ≤ 100000) (h : sat E w (osl 3 1 v l.length (l.map iv) * (pts nb (.cells [Value.int .i64 n].toArray 3 (0, 0)) * R)))
    (k : ∀ v' w', sat E w' (osl 3 1 v' (l.filter fun k => !decide (k = n)).length ((l.filter fun k => !decide (k = n)).map iv) * (pts nb (.cells [Value.int .i64 n].toArray 3 (0, 0)) * R)) → K v' w') :
    Calls prog 128 #[v, .func (.func 129) #[] #[.pointer (some ⟨nb, 0, none⟩)]] w (Ret K) := by
  refine c128 ?_
  unfold B128
  refine IndexI_spec (p := fun x => decide (x = n)) h Rds.own hl (fun x w K' h hk => eqN_spec h (hk w h)) (fun hall w h => ?_) (fun i hi hp hz w h => ?_)
  · simp only [↓opsA, opsB, if_true, if_false, ↓reduceIte]
    have e : (l.filter fun k => !decide (k = n)) = l := List.filter_eq_self.2 fun x hx => by rw [hall x hx]; rfl
    rw [e] at k
    exact k v w h
  · have hne : ¬ (i : Int) = -1 := by omega
    simp only [hne, ↓opsA, opsB, if_true, if_false, ↓reduceIte]
    rw [i64_of (by omega) (by omega)]
    obtain ⟨b, c, sp, rfl, hxl, htot, hcl, hcm, hP⟩ : ∃ b c sp, v = .slice (some ⟨b, 0, none⟩) l.length c ∧ (l.map iv).length = l.length * 1 ∧ (l.map iv ++ sp).length = c * 1 ∧ l.length ≤ c ∧ c ≤ 9223372036854775807 ∧ sat E w (pts b (.cells (l.map iv ++ sp).toArray 3 (0, 0)) * (pts nb (.cells [Value.int .i64 n].toArray 3 (0, 0)) * R)) := by
      rcases sat_osl.1 h with ⟨_, e, _⟩ | hh
      · omega
      · exact hh
    have hpf : ∀ j, (l.take j).filter (fun k => !decide (k = n)) = (l.take j).filter (fun k => !decide (k = n)) := fun _ => rfl
    have htk : (l.take (i + 1)).filter (fun k => !decide (k = n)) = l.take i := by
      rw [List.take_succ_eq_append_getElem hi, List.filter_append, List.filter_eq_self.2 (fun x hx => by rw [hz x hx]; rfl)]
      have : decide (l[i] = n) = true := hp
      simp only [List.filter_cons, this, Bool.not_true, Bool.false_eq_true, if_false, List.filter_nil, List.append_nil]
    refine lp_nat (fun q σ w => ∃ (a j : Nat) (cl : List Int), σ = [.int .i64 a, .int .i64 j] ∧ q = l.length - j ∧ j ≤ l.length ∧ a < j ∧ cl.length = l.length ∧ cl.take a = (l.take j).filter (fun k => !decide (k = n)) ∧ cl.drop j = l.drop j ∧
      sat E w (pts b (.cells (cl.map iv ++ sp).toArray 3 (0, 0)) * (pts nb (.cells [Value.int .i64 n].toArray 3 (0, 0)) * R))) (l.length - (i + 1)) ⟨i, i + 1, l, ?_, rfl, by omega, by omega, rfl, htk.symm, rfl, hP⟩ ?_
    · rw [show ((i + 1 : Nat) : Int) = (i : Int) + 1 by omega]
    clear h hP
    rintro q σ w again ⟨a, j, cl, rfl, rfl, hj, haj, hcll, hta, hdr, h⟩ hag
    try simp only [↓opsA, opsB, if_true, if_false, ↓reduceIte]
    have hal : a = ((l.take j).filter (fun k => !decide (k = n))).length := by rw [← hta, List.length_take]; omega
    refine cd_dec (fun hlt => ?_) (fun hge => ?_)
    · have hlt : j < l.length := by omega
      have hcj : (cl.map iv ++ sp)[j]? = some (iv l[j]) := by
        have e1 : cl[j]? = l[j]? := by
          have := congrArg (fun l => l[0]?) hdr
          simpa using this
        rw [List.getElem?_append_left (by rw [List.length_map]; omega), List.getElem?_map, e1, List.getElem?_eq_getElem hlt]; rfl
      have htj : (l.take (j + 1)).filter (fun k => !decide (k = n)) = (l.take j).filter (fun k => !decide (k = n)) ++ (if decide (l[j] = n) = true then [] else [l[j]]) := by
        rw [List.take_succ_eq_append_getElem hlt, List.filter_append]
        congr 1
        by_cases e : l[j] = n <;> simp [e]
      refine jn_cut (fun σ w => ∃ (a : Nat) (cl : List Int), σ = [.int .i64 a] ∧ a < j + 1 ∧ cl.length = l.length ∧ cl.take a = (l.take (j + 1)).filter (fun k => !decide (k = n)) ∧ cl.drop (j + 1) = l.drop (j + 1) ∧
        sat E w (pts b (.cells (cl.map iv ++ sp).toArray 3 (0, 0)) * (pts nb (.cells [Value.int .i64 n].toArray 3 (0, 0)) * R))) ?_ ?_
      · intro kk hk
        rw [o_index (by omega) (by omega)]
        simp only [Int.toNat_natCast, Nat.mul_one, Nat.zero_add]
        refine ld_in (b := b) h hcj ?_
        refine eqN_spec (nb := nb) h ?_
        by_cases e : l[j] = n
        · simp only [e, ↓opsA, opsB, if_true, if_false, ↓reduceIte]
          refine hk _ w ⟨a, cl, rfl, by omega, hcll, by rw [htj, if_pos (by simp [e]), List.append_nil]; exact hta, ?_, h⟩
          rw [← List.drop_drop, ← List.drop_drop, hdr]
        · simp only [e, ↓opsA, opsB, if_true, if_false, ↓reduceIte]
          rw [o_index (by omega) (by omega)]
          simp only [Int.toNat_natCast, Nat.mul_one, Nat.zero_add]
          refine store_sl (b := b) h rfl (by rw [List.length_append, List.length_map]; omega) fun w h => ?_
          rw [i64_of (by omega) (by omega)]
          refine hk _ w ⟨a + 1, cl.set a l[j], rfl, by omega, by rw [List.length_set]; exact hcll, ?_, ?_, ?_⟩
          · rw [htj, if_neg (by simp [e]), ← hta, List.take_succ_eq_append_getElem (by rw [List.length_set]; omega), List.getElem_set_self, List.take_set, List.set_eq_of_length_le (by rw [List.length_take]; omega)]
          · rw [List.drop_set, if_pos (by omega), ← List.drop_drop, ← List.drop_drop, hdr]
          · rw [List.map_set, ← List.set_append_left _ _ (by rw [List.length_map]; omega)]
            exact h
      · rintro σ w ⟨a, cl, rfl, ha, hcll, hta, hdr, h⟩
        try simp only [↓opsA, opsB, if_true, if_false, ↓reduceIte]
        rw [i64_of (by omega) (by omega)]
        refine hag (l.length - (j + 1)) _ _ (by omega) ⟨a, j + 1, cl, ?_, rfl, by omega, ha, hcll, hta, hdr, h⟩
        rw [show ((j + 1 : Nat) : Int) = (j : Int) + 1 by omega]
    · have hjl : j = l.length := by omega
      subst hjl
      rw [List.take_length] at hta hal
      rw [o_slice_l (by omega) (by omega), cutA_some (by omega)]
      simp only [Int.toNat_natCast, Nat.mul_one, Nat.zero_add]
      refine clear_slice (b := b) h (z := .int .i64 0) rfl (by omega) (by rw [List.length_append, List.length_map]; omega) fun w h => ?_
      rw [o_slice_h (by omega) (by omega)]
      try rw [cutA_some (by omega)]
      simp only [Int.toNat_natCast, Nat.zero_mul, Nat.add_zero]
      refine k _ w ?_
      rw [← hal, ← hta]
      rw [List.length_append, List.length_map] at htot
      have e1 : (cl.map iv ++ sp).take a = (cl.take a).map iv := by rw [List.take_append_of_le_length (by rw [List.length_map]; omega), List.map_take]
      have e2 : (cl.map iv ++ sp).drop (a + (l.length - a)) = sp := by
        rw [show a + (l.length - a) = (cl.map iv).length by rw [List.length_map]; omega, List.drop_left]
      rw [e1, e2, List.append_assoc] at h
      refine sat_osl.2 (.inr ⟨b, c, List.replicate (l.length - a) (.int .i64 0) ++ sp, rfl, ?_, ?_, by omega, by omega, h⟩)
      · rw [List.length_map, List.length_take]; omega
      · simp only [List.length_append, List.length_map, List.length_take, List.length_replicate]; omega
end Go.Proofs.YtfaeklinhchidaaGreat

/-
  The cache: a page is let go, is written; all is committed.
-/
set_option linter.all false
set_option maxRecDepth 100000
namespace Go.Proofs.YtfaeklinhchidaaGreat
open Go Hold
variable {E : World0} {w : World} {H R X : HP} {K : Value → World → Prop}
theorem drop_spec {A : Ad} {P : Pg} (hr : P.row.length ≤ 1000) (h : sat E w (pgr A P * R)) {n : Int} (k : ∀ w', sat E w' (pgr A (dropP P n) * R) → K (.tuple #[]) w') : Calls prog 100 #[.pointer (some ⟨A.q, 0, none⟩), .int .i64 n] w (Ret K) := by
  obtain ⟨rv, ds, cs, h⟩ := sat_pgr.1 h
  refine c100 ?_
  unfold B100
  refine box_sl h fun nb w h => ?_
  have h : sat E w (pts nb (.cells [Value.int .i64 n].toArray 3 (0, 0)) * _) := h
  simp only [↓opsA, opsB, if_true, if_false, ↓reduceIte]
  unfold pcells at h
  refine ld_at h ?_
  refine pvv_of (v := .func (.func 129) #[] #[.pointer (some ⟨nb, 0, none⟩)]) (fun _ => rfl) ?_
  have h := h.perm (show _ = osl 3 1 rv P.row.length (P.row.map iv) * (pts nb (.cells [Value.int .i64 n].toArray 3 (0, 0)) * (pts A.q (.cells [Value.pointer (some ⟨A.p, 0, none⟩), .int .i64 P.most, .map (some A.dm), .map (some A.cm), rv, .map (some A.pm), .int .i64 P.hits, .int .i64 P.misses].toArray 119 (0, 0)) * (omap A.dm ds * (omap A.cm cs * (omap A.pm (pinsM P.pins) * (pers (immM ds P.dirty) * (pers (immM cs P.clean) * lgI A.p A.d A.b P.S R))))))) by unfold lgI; ac_rfl)
  refine DeleteFunc_spec (by omega) h fun v2 w h => ?_
  try simp only [↓opsA, opsB, if_true, if_false, ↓reduceIte]
  obtain ⟨a2, c2, rfl, _, _, _⟩ := osl_shape h
  refine store_at (b := A.q) h rfl (by simp) fun w h => ?_
  refine dr_sl h fun w h _ => ?_
  try simp only [↓opsA, opsB, if_true, if_false, ↓reduceIte]
  refine ld_at (b := A.q) h ?_
  refine ld_at (b := nb) h ?_
  refine delete_sl (b := A.cm) h fun w h => ?_
  refine k w (sat_pgr.2 ⟨.slice a2 (P.row.filter fun k => !decide (k = n)).length c2, ds, delM cs n, ?_⟩)
  have h := h.perm (show _ = pers (immM cs P.clean) * (pts nb (.cells [Value.int .i64 n].toArray 3 (0, 0)) * (pts A.q (.cells (pcells (dropP P n) A (.slice a2 (P.row.filter fun k => !decide (k = n)).length c2)).toArray 119 (0, 0)) * (omap A.dm ds * (omap A.cm (delM cs n) * (omap A.pm (pinsM P.pins) * (osl 3 1 (.slice a2 (P.row.filter fun k => !decide (k = n)).length c2) (P.row.filter fun k => !decide (k = n)).length ((P.row.filter fun k => !decide (k = n)).map iv) * (pers (immM ds P.dirty) * lgI A.p A.d A.b P.S R))))))) by
    show _ = pers (immM cs P.clean) * (pts nb _ * (pts A.q (.cells [Value.pointer (some ⟨A.p, 0, none⟩), .int .i64 P.most, .map (some A.dm), .map (some A.cm), .slice a2 (P.row.filter fun k => !decide (k = n)).length c2, .map (some A.pm), .int .i64 P.hits, .int .i64 P.misses].toArray 119 (0, 0)) * _))
    ac_rfl)
  have h := h.pers_mono (ψ := immM (delM cs n) (delB P.clean n)) fun I hI => relM.del hI
  exact (h.perm (show _ = pts nb (.cells [Value.int .i64 n].toArray 3 (0, 0)) * (pts A.q (.cells (pcells (dropP P n) A (.slice a2 (P.row.filter fun k => !decide (k = n)).length c2)).toArray 119 (0, 0)) * (omap A.dm ds * (omap A.cm (delM cs n) * (omap A.pm (pinsM P.pins) * (osl 3 1 (.slice a2 (P.row.filter fun k => !decide (k = n)).length c2) (P.row.filter fun k => !decide (k = n)).length ((P.row.filter fun k => !decide (k = n)).map iv) * (pers (immM ds P.dirty) * (pers (immM (delM cs n) (delB P.clean n)) * lgI A.p A.d A.b P.S R))))))) by ac_rfl)).drop
theorem isSome_look {ds : List (Int × Value)} {D : List (Int × Bs)} {n : Int} {I : Hp} (h : relM I ds D) : (lookM ds n).isSome = decide (n ∈ D.map (·.1)) := by
  rcases h.look (k := n) with ⟨h1, h2⟩ | ⟨v, b, h1, h2, _⟩
  · rw [h1, decide_eq_false (lookB_none.1 h2)]; rfl
  · rw [h1]
    have : n ∈ D.map (·.1) := Classical.byContradiction fun hn => by rw [lookB_none.2 hn] at h2; cases h2
    rw [decide_eq_true this]; rfl
theorem PWrite_spec {A : Ad} {P : Pg} {gs : List (List Int)} (ok : POk P gs) (h : sat E w (pgr A P * R)) {n : Int} {v : Value} {b : Bs} (hv : Rds R v b.length (b.map bv)) (hb : b.length ≤ 140737488355328)
    (k : ∀ w', sat E w' (pgr A (writeP P n b) * R) → K (.int .i64 (writeE P n b)) w') : Calls prog 88 #[.pointer (some ⟨A.q, 0, none⟩), .int .i64 n, v] w (Ret K) := by
  have hrl := ok.rl; have hm2 := ok.m2
  obtain ⟨av, cv, rfl, _, hv, _⟩ := hv.shape h.drop
  refine c88 ?_
  unfold B88
  refine look_spec ok h fun w h => ?_
  try simp only [↓opsA, opsB, if_true, if_false, ↓reduceIte]
  by_cases hl : lookE P n = 0
  · simp only [hl, ↓opsA, opsB, if_true, if_false, ↓reduceIte]
    obtain ⟨rv, ds, cs, h⟩ := sat_pgr.1 h
    have hrel : relM (hp w) ds P.dirty := (h.split (pers (immM ds P.dirty))).pers_get
    unfold pcells at h
    refine ld_at h ?_
    refine look_d (b := A.dm) h ?_
    rw [isSome_look hrel]
    try simp only [↓opsA, opsB, if_true, if_false, ↓reduceIte]
    have hback := sat_pgr.2 ⟨rv, ds, cs, h⟩
    by_cases h256 : b.length = 256
    · have h256' : (b.length : Int) = 256 := by omega
      simp only [h256', ↓opsA, opsB, if_true, if_false, ↓reduceIte]
      have hgo : ¬ (n ∉ P.dirty.map (·.1) ∧ 100 ≤ P.dirty.length) → dr w fun w =>
        pvv prog (Instr.fieldAt 119 (.pointer (some ⟨A.q, 0, none⟩)) 2) w fun t_19 w =>
        bindS (vN (Instr.loadAt 117 t_19)) fun m_21 => ldv prog (Instr.loadAt 117 t_19) w fun t_20 w =>
        Calls prog 35 #[.slice av b.length cv] w (Ret fun t_22 w => stay prog none m_21 t_20 w <|
        efu prog (Instr.mapUpdate 117 t_20 (.int .i64 n) t_22) w fun u_23 w =>
        Calls prog 100 #[.pointer (some ⟨A.q, 0, none⟩), .int .i64 n] w (Ret fun t_24 w =>
        pvv prog (Instr.fieldAt 119 (.pointer (some ⟨A.q, 0, none⟩)) 5) w fun t_26 w =>
        ldv prog (Instr.loadAt 76 t_26) w fun t_27 w =>
        ef prog (oBi .delete #[76, 3] 0 #[false, false] #[t_27, (.int .i64 n)]) w fun u_28 w =>
        K (.int .i64 0) w)) := fun hroom => by
        have he : writeE P n b = 0 := by unfold writeE; rw [if_neg (by simp [hl]), if_neg (by omega), if_neg hroom]
        have hw : writeP P n b = writeT P n b := by unfold writeP; rw [if_pos he]
        rw [he, hw] at k
        refine dr_sl h fun w h _ => ?_
        simp only [↓opsA, opsB, if_true, if_false, ↓reduceIte]
        refine ld_at (b := A.q) h ?_
        have hvr : Rds (pts A.q (.cells [Value.pointer (some ⟨A.p, 0, none⟩), .int .i64 P.most, .map (some A.dm), .map (some A.cm), rv, .map (some A.pm), .int .i64 P.hits, .int .i64 P.misses].toArray 119 (0, 0)) * (omap A.dm ds * (omap A.cm cs * (omap A.pm (pinsM P.pins) * (osl 3 1 rv P.row.length (P.row.map iv) * (pers (immM ds P.dirty) * (pers (immM cs P.clean) * lgI A.p A.d A.b P.S R))))))) (.slice av b.length cv) b.length (b.map bv) := by
          unfold lgI
          exact hv.right.right.right.right.right.right.right.right.right.right
        refine Clone_spec h hvr hb fun v2 w h => ?_
        have h := osl_freeze h
        obtain ⟨a2, c2, rfl, _, _⟩ := h.pers_get
        refine st_at (b := A.q) h ?_
        try simp only [↓opsA, opsB, if_true, if_false, ↓reduceIte]
        refine update_sl (b := A.dm) h fun w h => ?_
        have h := sat_imp2 h (immS (.slice a2 b.length c2) b.length (b.map bv)) (immM ds P.dirty) (χ := immM (putM ds n (.slice a2 b.length c2)) (putB P.dirty n b)) fun I h1 h2 => relM.put h1 h2
        have h : sat E w (pgr A { P with dirty := putB P.dirty n b } * R) := sat_pgr.2 ⟨rv, _, cs, h.perm (by
          show _ = pts A.q (.cells [Value.pointer (some ⟨A.p, 0, none⟩), .int .i64 P.most, .map (some A.dm), .map (some A.cm), rv, .map (some A.pm), .int .i64 P.hits, .int .i64 P.misses].toArray 119 (0, 0)) * _
          ac_rfl)⟩
        refine drop_spec (by show P.row.length ≤ 1000; omega) h fun w h => ?_
        obtain ⟨rv2, ds2, cs2, h⟩ := sat_pgr.1 h
        try simp only [↓opsA, opsB, if_true, if_false, ↓reduceIte]
        unfold pcells at h
        refine ld_at (b := A.q) h ?_
        refine delete_sl (b := A.pm) h fun w h => ?_
        refine k w (sat_pgr.2 ⟨rv2, ds2, cs2, ?_⟩)
        have hpn : (dropP { P with dirty := putB P.dirty n b } n).pins.Nodup := ok.pn
        rw [pinsM_del hpn] at h
        exact h.perm (by
          show _ = pts A.q (.cells (pcells (writeT P n b) A rv2).toArray 119 (0, 0)) * _
          unfold pcells writeT
          ac_rfl)
      simp only [↓opsA, opsB, if_true, if_false, ↓reduceIte] at hgo
      by_cases hd : n ∈ P.dirty.map (·.1)
      · simp only [hd, ↓opsA, opsB, if_true, if_false, ↓reduceIte]
        exact hgo fun e => e.1 hd
      · simp only [hd, ↓opsA, opsB, if_true, if_false, ↓reduceIte]
        refine ld_at (b := A.q) h ?_
        refine len_ld (b := A.dm) h ?_
        rw [hrel.len]
        try simp only [↓opsA, opsB, if_true, if_false, ↓reduceIte]
        by_cases hfull : (100 : Int) ≤ (P.dirty.length : Int)
        · simp only [hfull, ↓opsA, opsB, if_true, if_false, ↓reduceIte]
          have he : writeE P n b = 6 := by unfold writeE; rw [if_neg (by simp [hl]), if_neg (by omega), if_pos ⟨hd, by omega⟩]
          have hw : writeP P n b = P := by unfold writeP; rw [if_neg (by rw [he]; decide)]
          rw [he, hw] at k
          exact k w hback
        · simp only [hfull, ↓opsA, opsB, if_true, if_false, ↓reduceIte]
          exact hgo fun e => hfull (by have := e.2; omega)
    · have h256' : ¬ (b.length : Int) = 256 := by omega
      simp only [h256', ↓opsA, opsB, if_true, if_false, ↓reduceIte]
      have he : writeE P n b = 3 := by unfold writeE; rw [if_neg (by simp [hl]), if_pos h256]
      have hw : writeP P n b = P := by unfold writeP; rw [if_neg (by rw [he]; decide)]
      rw [he, hw] at k
      exact k w hback
  · have h2 : lookE P n = 2 := by
      unfold lookE at hl ⊢
      by_cases e : n < 0 ∨ (P.S.pages : Int) ≤ n
      · rw [if_pos e]
      · rw [if_neg e] at hl; exact absurd rfl hl
    have he : writeE P n b = 2 := by unfold writeE; rw [if_pos hl]
    have hw : writeP P n b = P := by unfold writeP; rw [if_neg (by rw [he]; decide)]
    rw [he, hw] at k
    simp only [h2, ↓opsA, opsB, if_true, if_false, ↓reduceIte, show ¬ (2 : Int) = 0 by decide]
    exact k w h
end Go.Proofs.YtfaeklinhchidaaGreat

/-
  The cache: all that was written is committed, or forgotten.
-/
set_option linter.all false
set_option maxRecDepth 100000
namespace Go.Proofs.YtfaeklinhchidaaGreat
open Go Hold
variable {E : World0} {w : World} {H R X : HP} {K : Value → World → Prop}
theorem erase_perm' {α : Type} {l : List α} {j : Nat} {x : α} (h : l[j]? = some x) : (x :: l.eraseIdx j).Perm l := by
  induction l generalizing j with
  | nil => simp at h
  | cons y l ih =>
    cases j with
    | zero => simp at h; subst h; exact List.Perm.refl _
    | succ j =>
      simp only [List.getElem?_cons_succ] at h
      rw [List.eraseIdx_cons_succ]
      exact (List.Perm.swap y x _).trans ((ih h).cons y)
def pgOf (D : List (Int × Bs)) (n : Int) : Int × Bs := (n, (lookB D n).getD [])
theorem pgOf_all {D : List (Int × Bs)} (hn : (D.map (·.1)).Nodup) : D.map (fun x => pgOf D x.1) = D := by
  conv => rhs; rw [← List.map_id D]
  refine List.map_congr_left fun x hx => ?_
  unfold pgOf
  rw [lookB_of hn (show (x.1, x.2) ∈ D from hx)]; rfl
theorem relM.pages {I : Hp} {ds : List (Int × Value)} {D : List (Int × Bs)} (h : relM I ds D) (hn : (D.map (·.1)).Nodup) : ds.map (fun q => pgOf D q.1) = D := by
  have h1 : ds.map (fun q => pgOf D q.1) = (ds.map (·.1)).map (pgOf D) := by rw [List.map_map]; rfl
  rw [h1, h.keys, List.map_map]
  exact pgOf_all hn
/-- The pages in a slice, in whatever order they came. -/
theorem RdP.dirty {v : Value} {qs ds : List (Int × Value)} {D : List (Int × Bs)} {Y : HP} (hn : (D.map (·.1)).Nodup) (hq : ∀ q ∈ qs, q ∈ ds) [s : Split Y (pers (immM ds D)) R] (hv : Rds Y v qs.length (wcells qs)) : RdP Y v qs (qs.map fun q => pgOf D q.1) := by
  refine ⟨by rw [List.length_map]; exact hv, by rw [List.map_map]; rfl, fun i q p h1 h2 E w hs => ?_⟩
  have hrel : relM (hp w) ds D := (hs.split (pers (immM ds D))).pers_get
  obtain ⟨b, hb, hr⟩ := hrel.mem q (hq q (List.mem_of_getElem? h1))
  rw [List.getElem?_map, h1, Option.map_some, Option.some.injEq] at h2
  subst h2
  unfold pgOf
  rw [lookB_of hn hb]
  exact hr
theorem check_W {S : Lg} {gs : List (List Int)} (i : LInv S gs) : (checkS S).W.length ≤ S.W.length + 1025 ∧ (checkS S).groups = S.groups := by
  have hf := i.few
  unfold checkS
  split
  · exact ⟨by omega, rfl⟩
  · exact ⟨by rw [(checkT_len S).2]; omega, (backP_keep (touched S) S).2.1⟩
theorem PCommit_spec {A : Ad} {P : Pg} {gs : List (List Int)} (ok : POk P gs) (h : sat E w (pgr A P * R)) (hW : P.S.W.length ≤ 890000) (hg : P.S.groups < 2 ^ 40)
    (k : ∀ w', sat E w' (pgr A (comP P) * R) → K (.int .i64 (comE P.S P.dirty)) w') : Calls prog 23 #[.pointer (some ⟨A.q, 0, none⟩)] w (Ret K) := by
  have hdl := ok.dl
  obtain ⟨rv, ds, cs, h⟩ := sat_pgr.1 h
  have hrel : relM (hp w) ds P.dirty := (h.split (pers (immM ds P.dirty))).pers_get
  have hds := hrel.len
  have hpages := hrel.pages ok.dn
  refine c23 ?_
  unfold B23
  simp only [↓opsA, opsB, if_true, if_false, ↓reduceIte]
  unfold pcells at h
  refine ld_at (b := A.q) h ?_
  refine range_sl (b := A.dm) h fun it w h => ?_
  generalize hF : pts A.q (.cells [Value.pointer (some ⟨A.p, 0, none⟩), .int .i64 P.most, .map (some A.dm), .map (some A.cm), rv, .map (some A.pm), .int .i64 P.hits, .int .i64 P.misses].toArray 119 (0, 0)) * (omap A.cm cs * (omap A.pm (pinsM P.pins) * (osl 3 1 rv P.row.length (P.row.map iv) * (pers (immM cs P.clean) * R)))) = F
  have h : sat E w (omit_ it A.dm ds ds * (osl 136 2 (.slice none 0 0) 0 (wcells []) * (pers (immM ds P.dirty) * lgI A.p A.d A.b P.S F))) := by
    subst hF
    have h := osl_nil h 136 2
    exact h.perm (by show osl 136 2 (.slice none 0 0) 0 (wcells []) * _ = _; unfold lgI; ac_rfl)
  refine lp_nat (fun q σ w => ∃ (rest qs : List (Int × Value)) (v : Value), σ = [v] ∧ q = rest.length ∧ (qs ++ rest).Perm ds ∧ sat E w (omit_ it A.dm ds rest * (osl 136 2 v qs.length (wcells qs) * (pers (immM ds P.dirty) * lgI A.p A.d A.b P.S F)))) ds.length ⟨ds, [], _, rfl, rfl, List.Perm.refl _, h⟩ ?_
  clear h
  rintro q σ w again ⟨rest, qs, v, rfl, rfl, hp, h⟩ hag
  rw [pop_cons, fin_nil]
  have hlen := hp.length_eq
  rw [List.length_append] at hlen
  refine next_sl (i := it) (b := A.dm) (l := ds) (rest := rest) h (fun h0 => ?_) (fun j x w hj hen h => ?_)
  · subst h0
    rw [o_extract, cd_false]
    rw [List.append_nil] at hp
    have h := omit_close h
    have hmem : ∀ q ∈ qs, q ∈ ds := fun q hq => hp.mem_iff.1 hq
    have hps : (qs.map fun q => pgOf P.dirty q.1).Perm P.dirty := by
      have := hp.map (fun q : Int × Value => pgOf P.dirty q.1)
      rw [hpages] at this
      exact this
    subst hF
    unfold lgI at h
    try simp only [↓opsA, opsB, if_true, if_false, ↓reduceIte]
    refine ld_at (b := A.q) h ?_
    generalize hY : osl 136 2 v qs.length (wcells qs) * (omap A.dm ds * (pers (immM ds P.dirty) * (pts A.q (.cells [Value.pointer (some ⟨A.p, 0, none⟩), .int .i64 P.most, .map (some A.dm), .map (some A.cm), rv, .map (some A.pm), .int .i64 P.hits, .int .i64 P.misses].toArray 119 (0, 0)) * (omap A.cm cs * (omap A.pm (pinsM P.pins) * (osl 3 1 rv P.row.length (P.row.map iv) * (pers (immM cs P.clean) * R))))))) = Y
    have h : sat E w (lgI A.p A.d A.b P.S Y) := by
      subst hY
      unfold lgI
      exact h.perm (by ac_rfl)
    have hrdp : RdP Y v qs (qs.map fun q => pgOf P.dirty q.1) := by
      subst hY
      exact RdP.dirty (ds := ds) ok.dn hmem Rds.osl.left
    have he := err_perm (S := P.S) hps
    have hc := commit_perm (S := P.S) hps
    refine Commit_spec ok.i h hrdp (by omega) hg fun w h => ?_
    rw [he]
    rw [hc] at h
    refine jn_cut (fun σ w => σ = [.int .i64 (comE P.S P.dirty)] ∧ sat E w (lgI A.p A.d A.b (comS P.S P.dirty) Y)) ?_ ?_
    · intro kk hk
      have hld : ∀ {S : Lg} {w : World} {K' : Value → World → Prop}, sat E w (lgI A.p A.d A.b S Y) → K' (.pointer (some ⟨A.p, 0, none⟩)) w → ldv prog (Instr.loadAt 52 (.pointer (some ⟨A.q, 0, none⟩))) w K' := fun {S w K'} h hk' => by
        clear hk
        subst hY
        unfold lgI at h
        exact ld_at (b := A.q) h hk'
      by_cases h7 : errC P.S P.dirty = 7
      · simp only [h7, ↓opsA, opsB, if_true, if_false, ↓reduceIte]
        have hcs : commitS P.S P.dirty = P.S := by unfold commitS; rw [if_neg (fun e => by rw [h7] at e; exact absurd e.1 (by decide))]
        rw [hcs] at h
        refine hld h ?_
        refine Check_spec ok.i h (by omega) fun w h => ?_
        try simp only [↓opsA, opsB, if_true, if_false, ↓reduceIte]
        refine hld h ?_
        obtain ⟨gs', i'⟩ := ok.i.checkS
        have hcw := check_W ok.i
        refine Commit_spec i' h hrdp (by omega) (by omega) fun w h => ?_
        rw [err_perm hps]
        rw [commit_perm hps] at h
        refine hk _ _ ⟨?_, ?_⟩
        · unfold comE; rw [if_pos h7]
        · unfold comS; rw [if_pos h7]; exact h
      · simp only [h7, ↓opsA, opsB, if_true, if_false, ↓reduceIte]
        refine hk _ _ ⟨?_, ?_⟩
        · unfold comE; rw [if_neg h7]
        · unfold comS; rw [if_neg h7]; exact h
    · rintro σ w ⟨rfl, h⟩
      rw [pop_cons, fin_nil]
      have hfin : ∀ (ds' : List (Int × Value)) (w : World), (sat E w (lgI A.p A.d A.b (comS P.S P.dirty) (osl 136 2 v qs.length (wcells qs) * (omap A.dm ds' * (pers (immM ds' (comP P).dirty) * (pts A.q (.cells [Value.pointer (some ⟨A.p, 0, none⟩), .int .i64 P.most, .map (some A.dm), .map (some A.cm), rv, .map (some A.pm), .int .i64 P.hits, .int .i64 P.misses].toArray 119 (0, 0)) * (omap A.cm cs * (omap A.pm (pinsM P.pins) * (osl 3 1 rv P.row.length (P.row.map iv) * (pers (immM cs P.clean) * R)))))))))) → K (.int .i64 (comE P.S P.dirty)) w := fun ds' w h => by
        refine k w (sat_pgr.2 ⟨rv, ds', cs, ?_⟩)
        have h := h.perm (show _ = osl 136 2 v qs.length (wcells qs) * (pts A.q (.cells (pcells (comP P) A rv).toArray 119 (0, 0)) * (omap A.dm ds' * (omap A.cm cs * (omap A.pm (pinsM P.pins) * (osl 3 1 rv P.row.length (P.row.map iv) * (pers (immM ds' (comP P).dirty) * (pers (immM cs P.clean) * lgI A.p A.d A.b (comS P.S P.dirty) R))))))) by
          show _ = osl 136 2 v qs.length (wcells qs) * (pts A.q (.cells [Value.pointer (some ⟨A.p, 0, none⟩), .int .i64 P.most, .map (some A.dm), .map (some A.cm), rv, .map (some A.pm), .int .i64 P.hits, .int .i64 P.misses].toArray 119 (0, 0)) * _)
          unfold lgI
          ac_rfl)
        exact h.drop
      refine jn_cut (fun σ w => σ = [] ∧ K (.int .i64 (comE P.S P.dirty)) w) ?_ ?_
      · intro kk hk
        subst hY
        by_cases h0 : comE P.S P.dirty = 0
        · have hd : (comP P).dirty = [] := by unfold comP; simp only; rw [if_pos h0]
          simp only [h0, ↓opsA, opsB, if_true, if_false, ↓reduceIte]
          unfold lgI at h
          refine ld_at (b := A.q) h ?_
          refine clear_sl (b := A.dm) h fun w h => ?_
          refine hk _ _ ⟨rfl, hfin [] w ?_⟩
          rw [hd]
          have h := h.perm (show _ = pers (immM ds P.dirty) * (pts A.p (.cells (lcells (comS P.S P.dirty) A.d A.b).toArray 114 (0, 0)) * (dsk A.d (comS P.S P.dirty).L (comS P.S P.dirty).W * (omap A.b (mpA (comS P.S P.dirty).a) * (osl 136 2 v qs.length (wcells qs) * (omap A.dm [] * (pts A.q (.cells [Value.pointer (some ⟨A.p, 0, none⟩), .int .i64 P.most, .map (some A.dm), .map (some A.cm), rv, .map (some A.pm), .int .i64 P.hits, .int .i64 P.misses].toArray 119 (0, 0)) * (omap A.cm cs * (omap A.pm (pinsM P.pins) * (osl 3 1 rv P.row.length (P.row.map iv) * (pers (immM cs P.clean) * R)))))))))) by ac_rfl)
          have h := h.pers_mono (ψ := immM [] []) fun I _ => trivial
          unfold lgI
          exact h.perm (by ac_rfl)
        · have hd : (comP P).dirty = P.dirty := by unfold comP; simp only; rw [if_neg h0]
          simp only [h0, ↓opsA, opsB, if_true, if_false, ↓reduceIte]
          refine hk _ _ ⟨rfl, hfin ds w ?_⟩
          rw [hd]
          exact h
      · rintro σ w ⟨rfl, hk⟩
        rw [fin_nil]
        exact hk
  · rw [o_extract, cd_true]
    refine efv_of hen ?_
    rw [o_extract, o_extract]
    have hlt := (List.getElem?_eq_some_iff.1 hj).1
    have hx : x ∈ ds := hp.mem_iff.1 (List.mem_append_right _ (List.mem_of_getElem? hj))
    obtain ⟨ax, nx, cx, hxv⟩ : ∃ ax nx cx, x.2 = .slice ax nx cx := by
      have hrel : relM (Hold.hp w) ds P.dirty := (h.split (pers (immM ds P.dirty))).pers_get
      obtain ⟨b, _, a, c, e, _⟩ := hrel.mem x hx
      exact ⟨a, b.length, c, e⟩
    rw [hxv]
    refine pvv_of (v := .agg #[.int .i64 x.1, .slice ax nx cx]) (fun _ => by kernel_rfl) ?_
    refine buildSlice_sl (e := 136) (cs := #[.int .i64 x.1, .slice ax nx cx]) h (fun w => by kernel_rfl) fun b2 w h => ?_
    have h := h.owns v
    refine append_sl h [.int .i64 x.1, .slice ax nx cx] rfl (.inr ⟨b2, 0, _, 136, (0, 0), rfl, h.drop.pts_get, fun j u hj => by simpa using hj⟩) (by simp [Value.oneCell']) (by omega) (by omega) fun v2 w h => ?_
    have e1 : wcells (qs ++ [x]) = wcells qs ++ [.int .i64 x.1, .slice ax nx cx] := by rw [← hxv]; exact wcells_snoc qs _ _
    refine hag (rest.eraseIdx j).length _ _ (by rw [List.length_eraseIdx, if_pos hlt]; omega) ⟨rest.eraseIdx j, qs ++ [x], v2, rfl, rfl, ?_, ?_⟩
    · refine List.Perm.trans ?_ hp
      rw [List.append_assoc]
      exact List.Perm.append_left qs (erase_perm' hj)
    · rw [e1, List.length_append]
      have h := h.perm (show _ = pts b2 (.cells #[.int .i64 x.1, .slice ax nx cx] 136 (0, 0)) * (omit_ it A.dm ds (rest.eraseIdx j) * (osl 136 2 v2 (qs.length + 1) (wcells qs ++ [.int .i64 x.1, .slice ax nx cx]) * (pers (immM ds P.dirty) * lgI A.p A.d A.b P.S F))) by ac_rfl)
      exact h.drop
/-- What is asked of its log. -/
theorem pgr_log {A : Ad} {P : Pg} (h : sat E w (pgr A P * R)) : ∃ Y : HP, sat E w (lgI A.p A.d A.b P.S (Y * R)) ∧ (∀ {R' : HP} {w' : World}, sat E w' (lgI A.p A.d A.b P.S (Y * R')) → sat E w' (pgr A P * R')) := by
  obtain ⟨rv, ds, cs, h⟩ := sat_pgr.1 h
  refine ⟨pts A.q (.cells (pcells P A rv).toArray 119 (0, 0)) * (omap A.dm ds * (omap A.cm cs * (omap A.pm (pinsM P.pins) * (osl 3 1 rv P.row.length (P.row.map iv) * (pers (immM ds P.dirty) * pers (immM cs P.clean)))))), ?_, fun {R' w'} h' => sat_pgr.2 ⟨rv, ds, cs, ?_⟩⟩
  · unfold lgI at h ⊢
    exact h.perm (by ac_rfl)
  · unfold lgI at h' ⊢
    exact h'.perm (by ac_rfl)
end Go.Proofs.YtfaeklinhchidaaGreat

/-
  The cache: its log; what was written.
-/
set_option linter.all false
set_option maxRecDepth 100000
namespace Go.Proofs.YtfaeklinhchidaaGreat
open Go Hold
variable {E : World0} {w : World} {H R X : HP} {K : Value → World → Prop}
/-- Its log. -/
theorem Log_spec {A : Ad} {P : Pg} (h : sat E w (pgr A P * R)) (k : K (.pointer (some ⟨A.p, 0, none⟩)) w) : Calls prog 27 #[.pointer (some ⟨A.q, 0, none⟩)] w (Ret K) := by
  obtain ⟨rv, ds, cs, h⟩ := sat_pgr.1 h
  refine c27 ?_
  unfold B27
  simp only [↓opsA, opsB, if_true, if_false, ↓reduceIte]
  unfold pcells at h
  exact ld_at (b := A.q) h k
/-- The numbers of the pages that were written. -/
def dirtyN (P : Pg) : List Int := sortI (P.dirty.map (·.1))
theorem Dirty_spec {A : Ad} {P : Pg} {gs : List (List Int)} (ok : POk P gs) (h : sat E w (pgr A P * R)) (k : ∀ u w', sat E w' (osl 3 1 u P.dirty.length ((dirtyN P).map iv) * (pgr A P * R)) → K u w') : Calls prog 46 #[.pointer (some ⟨A.q, 0, none⟩)] w (Ret K) := by
  have hdl := ok.dl
  obtain ⟨rv, ds, cs, h⟩ := sat_pgr.1 h
  have hrel : relM (hp w) ds P.dirty := (h.split (pers (immM ds P.dirty))).pers_get
  have hds := hrel.len; have hkeys := hrel.keys
  refine c46 ?_
  unfold B46
  simp only [↓opsA, opsB, if_true, if_false, ↓reduceIte]
  unfold pcells at h
  refine ld_at (b := A.q) h ?_
  refine KU.SortedKeys_spec (b := A.dm) (by omega) (h.ownm A.dm) fun u ss w hp hs h => ?_
  rw [hkeys] at hp
  have e : ss = dirtyN P := sortI_of hp hs
  subst e
  have hl : (dirtyN P).length = P.dirty.length := by unfold dirtyN; rw [sortI_length, List.length_map]
  rw [hl] at h
  refine k u w ?_
  have h := h.perm (show _ = pts A.q (.cells (pcells P A rv).toArray 119 (0, 0)) * (omap A.dm ds * (omap A.cm cs * (omap A.pm (pinsM P.pins) * (osl 3 1 rv P.row.length (P.row.map iv) * (pers (immM ds P.dirty) * (pers (immM cs P.clean) * lgI A.p A.d A.b P.S (osl 3 1 u P.dirty.length ((dirtyN P).map iv) * R))))))) by unfold pcells lgI; ac_rfl)
  exact (sat_pgr.2 ⟨rv, ds, cs, h⟩).perm (by ac_rfl)
end Go.Proofs.YtfaeklinhchidaaGreat

/-
  The cache: a page is used, is read.
-/
set_option linter.all false
set_option maxRecDepth 100000
namespace Go.Proofs.YtfaeklinhchidaaGreat
open Go Hold
variable {E : World0} {w : World} {H R X : HP} {K : Value → World → Prop}
theorem unpinned_spec (h : sat E w H) {pb q pm : Nat} {cs : List Value} {x : Int} {l : List Int} [s1 : Has H pb (.cells [Value.pointer (some ⟨q, 0, none⟩)].toArray 55 (0, 0))] [s2 : Has H q (.cells cs.toArray 119 (0, 0))] (hc : cs[5]? = some (.map (some pm))) [s3 : OwnM H pm (pinsM l) R]
    (k : K (.bool !decide (x ∈ l)) w) : ef prog (oCall (.func (.func 102) #[] #[.pointer (some ⟨pb, 0, none⟩)]) #[.int .i64 x]) w K := by
  refine oCall_body Tryz.func102 (by kernel_rfl) (by kernel_rfl) ?_
  refine c102 ?_
  unfold B102
  refine ld_at (b := pb) h ?_
  simp only [↓opsA, opsB, if_true, if_false, ↓reduceIte]
  refine ld_in (b := q) h hc ?_
  refine look1_ld (b := pm) h ?_
  rw [pinsM_look]
  by_cases e : x ∈ l
  · rw [if_pos e, Option.getD_some]
    simp only [↓opsA, opsB, if_true, if_false, ↓reduceIte]
    rw [decide_eq_true e] at k
    exact k
  · rw [if_neg e, Option.getD_none]
    simp only [↓opsA, opsB, if_true, if_false, ↓reduceIte]
    rw [decide_eq_false e] at k
    exact k
theorem useP_none {P : Pg} {n : Int} (hf : P.most < (use2 P n).row.length) (h : ((use2 P n).row.find? fun k => !decide (k ∈ P.pins)) = none) : useP P n = use2 P n := by
  unfold useP; rw [if_pos hf, h]
theorem useP_some {P : Pg} {n k : Int} (hf : P.most < (use2 P n).row.length) (h : ((use2 P n).row.find? fun k => !decide (k ∈ P.pins)) = some k) : useP P n = dropP (use2 P n) k := by
  unfold useP; rw [if_pos hf, h]
theorem find_take {l : List Int} {p : Int → Bool} : ∀ {i : Nat} (hi : i < l.length), p l[i] = true → (∀ x ∈ l.take i, p x = false) → l.find? p = some l[i] := by
  induction l with
  | nil => intro i hi; simp at hi
  | cons y l ih =>
    intro i hi h1 h2
    rw [List.find?_cons]
    cases i with
    | zero => simp only [List.getElem_cons_zero] at h1 ⊢; rw [h1]
    | succ i =>
      have hy := h2 y (by simp)
      rw [hy]
      simp only [List.getElem_cons_succ] at h1 ⊢
      exact ih (by simpa using hi) h1 fun x hx => h2 x (by rw [List.take_succ_cons]; exact List.mem_cons_of_mem _ hx)
theorem use_spec {A : Ad} {P : Pg} {gs : List (List Int)} (ok : POk P gs) (h : sat E w (pgr A P * R)) {n : Nat} (hn : n < P.S.pages) (hh : P.hits ≤ 1000000) (hmi : P.misses ≤ 1000000)
    (k : ∀ v w', sat E w' (osl 5 1 v 256 ((useB P n).map bv) * (pgr A (useP P n) * R)) → K v w') : Calls prog 64 #[.pointer (some ⟨A.q, 0, none⟩), .int .i64 n] w (Ret K) := by
  have hrl := ok.rl; have hm2 := ok.m2; have hsz := ok.i.sz; have hle := ok.i.wf.le
  have hb256 : (useB P n).length = 256 := by
    rw [ok.useB (by omega), Int.toNat_natCast]
    unfold Lg.view
    rw [getD_of (ok.i.place_lt hn)]
    exact ok.i.wf.l _ (List.getElem_mem _)
  refine c64 ?_
  unfold B64
  refine box_sl h fun pb w h => ?_
  have h : sat E w (pts pb (.cells [Value.pointer (some ⟨A.q, 0, none⟩)].toArray 55 (0, 0)) * (pgr A P * R)) := h
  have hswap : ∀ {Q : Pg} {w : World}, sat E w (pts pb (.cells [Value.pointer (some ⟨A.q, 0, none⟩)].toArray 55 (0, 0)) * (pgr A Q * R)) ↔ sat E w (pgr A Q * (pts pb (.cells [Value.pointer (some ⟨A.q, 0, none⟩)].toArray 55 (0, 0)) * R)) := fun {Q w} => ⟨fun h => h.perm (star_left_comm _ _ _), fun h => h.perm (star_left_comm _ _ _)⟩
  refine ld_at (b := pb) h ?_
  simp only [↓opsA, opsB, if_true, if_false, ↓reduceIte]
  obtain ⟨rv, ds, cs, h⟩ := sat_pgr.1 (hswap.1 h)
  have hrel : relM (hp w) cs P.clean := (h.split (pers (immM cs P.clean))).pers_get
  unfold pcells at h
  refine ld_at (b := A.q) h ?_
  refine look_d (b := A.cm) h ?_
  try simp only [↓opsA, opsB, if_true, if_false, ↓reduceIte]
  -- its bytes, and the count of hits or misses
  refine jn_cut (fun σ w => ∃ v, σ = [v] ∧ sat E w (pers (immS v 256 ((useB P n).map bv)) * (pts pb (.cells [Value.pointer (some ⟨A.q, 0, none⟩)].toArray 55 (0, 0)) * (pgr A (use1 P n) * R)))) ?_ ?_
  · intro kk hk
    rcases hrel.look (k := (n : Int)) with ⟨l1, l2⟩ | ⟨cv, cb, l1, l2, l3⟩
    · have hu1 : use1 P n = { P with misses := P.misses + 1 } := by unfold use1; rw [l2]; rfl
      have hub : useB P n = P.S.view n := by unfold useB; rw [l2]; simp
      rw [l1]
      simp only [Option.getD_none, Option.isSome_none, ↓opsA, opsB, if_true, if_false, ↓reduceIte]
      refine ld_at (b := pb) h ?_
      simp only [↓opsA, opsB, if_true, if_false, ↓reduceIte]
      refine atAdd_spec (b := A.q) h (xs := [Value.pointer (some ⟨A.p, 0, none⟩), .int .i64 P.most, .map (some A.dm), .map (some A.cm), rv, .map (some A.pm), .int .i64 P.hits, .int .i64 P.misses]) rfl fun w h => ?_
      rw [i64_of (by omega) (by omega)] at h
      have h : sat E w (pgr A (use1 P n) * (pts pb (.cells [Value.pointer (some ⟨A.q, 0, none⟩)].toArray 55 (0, 0)) * R)) := by
        rw [hu1]
        refine sat_pgr.2 ⟨rv, ds, cs, ?_⟩
        exact h.perm (by
          show pts A.q (.cells [Value.pointer (some ⟨A.p, 0, none⟩), .int .i64 P.most, .map (some A.dm), .map (some A.cm), rv, .map (some A.pm), .int .i64 P.hits, .int .i64 ((P.misses : Int) + 1)].toArray 119 (0, 0)) * _ = pts A.q (.cells [Value.pointer (some ⟨A.p, 0, none⟩), .int .i64 P.most, .map (some A.dm), .map (some A.cm), rv, .map (some A.pm), .int .i64 P.hits, .int .i64 ((P.misses + 1 : Nat) : Int)].toArray 119 (0, 0)) * _
          rw [show ((P.misses + 1 : Nat) : Int) = (P.misses : Int) + 1 by omega]
          try ac_rfl)
      refine ld_at (b := pb) h ?_
      simp only [↓opsA, opsB, if_true, if_false, ↓reduceIte]
      obtain ⟨rv2, ds2, cs2, h2⟩ := sat_pgr.1 h
      unfold pcells at h2
      refine ld_at (b := A.q) h2 ?_
      obtain ⟨Y, h, hb⟩ := pgr_log h
      have hS : (use1 P n).S = P.S := by rw [hu1]
      rw [hS] at h
      refine Read_ok h (by omega) hle hn ok.i.wf.l (fun v e => ok.i.look e) (ok.i.place_lt hn) fun v w h => ?_
      try simp only [↓opsA, opsB, if_true, if_false, ↓reduceIte]
      refine hk _ w ⟨v, rfl, ?_⟩
      have h := osl_freeze h
      rw [hub]
      have h : sat E w (lgI A.p A.d A.b P.S (Y * (pers (immS v 256 ((P.S.view n).map bv)) * (pts pb (.cells [Value.pointer (some ⟨A.q, 0, none⟩)].toArray 55 (0, 0)) * R)))) := by
        unfold lgI at h ⊢
        exact h.perm (by show pers (immS v 256 ((P.S.view n).map bv)) * _ = _; ac_rfl)
      rw [← hS] at h
      have h := hb h
      rw [hS] at h
      exact h.perm (by ac_rfl)
    · have hu1 : use1 P n = { P with hits := P.hits + 1 } := by unfold use1; rw [l2]; rfl
      have hub : useB P n = cb := by unfold useB; rw [l2]; rfl
      rw [l1]
      simp only [Option.getD_some, Option.isSome_some, ↓opsA, opsB, if_true, if_false, ↓reduceIte]
      have hcb : cb.length = 256 := by rw [← hub]; exact hb256
      have h := sat_dup (immM cs P.clean) h
      have h := h.pers_mono (ψ := immS cv cb.length (cb.map bv)) fun I hI => by
        rcases relM.look (k := (n : Int)) hI with ⟨m1, _⟩ | ⟨v', b', m1, m2, m3⟩
        · rw [m1] at l1; cases l1
        · rw [m1, Option.some.injEq] at l1
          rw [m2, Option.some.injEq] at l2
          subst l1; subst l2; exact m3
      refine ld_at (b := pb) h ?_
      simp only [↓opsA, opsB, if_true, if_false, ↓reduceIte]
      refine atAdd_spec (b := A.q) h (xs := [Value.pointer (some ⟨A.p, 0, none⟩), .int .i64 P.most, .map (some A.dm), .map (some A.cm), rv, .map (some A.pm), .int .i64 P.hits, .int .i64 P.misses]) rfl fun w h => ?_
      rw [i64_of (by omega) (by omega)] at h
      refine hk _ w ⟨cv, rfl, ?_⟩
      rw [hub, ← hcb]
      have h : sat E w (pgr A (use1 P n) * (pers (immS cv cb.length (cb.map bv)) * (pts pb (.cells [Value.pointer (some ⟨A.q, 0, none⟩)].toArray 55 (0, 0)) * R))) := by
        rw [hu1]
        refine sat_pgr.2 ⟨rv, ds, cs, ?_⟩
        exact h.perm (by
          show pts A.q (.cells [Value.pointer (some ⟨A.p, 0, none⟩), .int .i64 P.most, .map (some A.dm), .map (some A.cm), rv, .map (some A.pm), .int .i64 ((P.hits : Int) + 1), .int .i64 P.misses].toArray 119 (0, 0)) * _ = pts A.q (.cells [Value.pointer (some ⟨A.p, 0, none⟩), .int .i64 P.most, .map (some A.dm), .map (some A.cm), rv, .map (some A.pm), .int .i64 ((P.hits + 1 : Nat) : Int), .int .i64 P.misses].toArray 119 (0, 0)) * _
          rw [show ((P.hits + 1 : Nat) : Int) = (P.hits : Int) + 1 by omega]
          unfold lgI
          try ac_rfl)
      exact h.perm (by ac_rfl)
  · clear h hrel
    rintro σ w ⟨v, rfl, h⟩
    rw [pop_cons, fin_nil]
    generalize hP1 : use1 P n = P1 at h
    have hr1 : P1.row = P.row ∧ P1.most = P.most ∧ P1.pins = P.pins := by rw [← hP1]; unfold use1; split <;> exact ⟨rfl, rfl, rfl⟩
    obtain ⟨r1, r2, r3⟩ := hr1
    refine ld_at (b := pb) h ?_
    have h : sat E w (pgr A P1 * (pers (immS v 256 ((useB P n).map bv)) * (pts pb (.cells [Value.pointer (some ⟨A.q, 0, none⟩)].toArray 55 (0, 0)) * R))) := h.perm (by ac_rfl)
    refine drop_spec (by rw [r1]; omega) h fun w h => ?_
    obtain ⟨rv2, ds2, cs2, h⟩ := sat_pgr.1 h
    have hrow : (dropP P1 n).row = P.row.filter fun k => !decide (k = (n : Int)) := by show P1.row.filter _ = _; rw [r1]
    have hrowl : (dropP P1 n).row.length ≤ 64 := by rw [hrow]; have := List.length_filter_le (fun k => !decide (k = (n : Int))) P.row; omega
    refine dr_sl h fun w h _ => ?_
    refine ld_at (b := pb) h ?_
    refine ld_at (b := pb) h ?_
    simp only [↓opsA, opsB, if_true, if_false, ↓reduceIte]
    unfold pcells at h
    refine ld_at (b := A.q) h ?_
    refine buildSlice_sl (e := 3) (cs := #[.int .i64 (n : Int)]) h (fun w => by kernel_rfl) fun b2 w h => ?_
    refine st_at (b := A.q) h ?_
    refine st_at (b := pb) h ?_
    refine st_at (b := pb) h ?_
    have h := h.owns rv2
    refine append_sl h [.int .i64 (n : Int)] rfl (.inr ⟨b2, 0, _, 3, (0, 0), rfl, h.drop.pts_get, fun j u hj => by simpa using hj⟩) (by simp [Value.oneCell']) (by omega) (by omega) fun rv3 w h => ?_
    obtain ⟨a3, c3, rfl, _, _, _⟩ := osl_shape h
    try simp only [↓opsA, opsB, if_true, if_false, ↓reduceIte]
    refine st_at (b := pb) h ?_
    refine store_at (b := A.q) h rfl (by simp) fun w h => ?_
    refine ld_at (b := pb) h ?_
    simp only [↓opsA, opsB, if_true, if_false, ↓reduceIte]
    refine ld_at (b := A.q) h ?_
    refine update_sl (b := A.cm) h fun w h => ?_
    have hU2 : use2 P n = { dropP P1 n with row := (dropP P1 n).row ++ [(n : Int)], clean := putB (dropP P1 n).clean n (useB P n) } := by unfold use2; rw [hP1]
    have hvv : ∃ av cv', v = .slice av 256 cv' := by
      obtain ⟨a, c, e, _⟩ := (h.split (pers (immS v 256 ((useB P n).map bv)))).pers_get
      exact ⟨a, c, e⟩
    have h := sat_dup (immS v 256 ((useB P n).map bv)) h
    have h := sat_imp2 h (immS v 256 ((useB P n).map bv)) (immM cs2 (dropP P1 n).clean) (χ := immM (putM cs2 n v) (putB (dropP P1 n).clean n (useB P n))) fun I h1 h2 => relM.put (by rw [hb256]; exact h1) h2
    have h : sat E w (pgr A (use2 P n) * (pers (immS v 256 ((useB P n).map bv)) * (pts pb (.cells [Value.pointer (some ⟨A.q, 0, none⟩)].toArray 55 (0, 0)) * (pts b2 (.cells #[.int .i64 (n : Int)] 3 (0, 0)) * R)))) := by
      rw [hU2]
      refine sat_pgr.2 ⟨.slice a3 ((dropP P1 n).row.length + 1) c3, ds2, putM cs2 n v, ?_⟩
      simp only [List.length_append, List.length_cons, List.length_nil, List.map_append, List.map_cons, List.map_nil, Nat.zero_add]
      exact h.perm (by
        show _ = pts A.q (.cells [Value.pointer (some ⟨A.p, 0, none⟩), .int .i64 (dropP P1 n).most, .map (some A.dm), .map (some A.cm), .slice a3 ((dropP P1 n).row.length + 1) c3, .map (some A.pm), .int .i64 (dropP P1 n).hits, .int .i64 (dropP P1 n).misses].toArray 119 (0, 0)) * _
        unfold lgI
        ac_rfl)
    clear hU2
    have hmost : (use2 P n).most = P.most := use2_same.2.2.2
    have hpins : (use2 P n).pins = P.pins := use2_same.2.2.1
    have hrow2 : (use2 P n).row = (P.row.filter fun k => !decide (k = (n : Int))) ++ [(n : Int)] := use2_row
    have hrl2 : (use2 P n).row.length ≤ 65 := by rw [hrow2, List.length_append]; have := List.length_filter_le (fun k => !decide (k = (n : Int))) P.row; simp only [List.length_cons, List.length_nil]; omega
    refine jn_cut (fun σ w => σ = [] ∧ sat E w (pgr A (useP P n) * (pers (immS v 256 ((useB P n).map bv)) * (pts pb (.cells [Value.pointer (some ⟨A.q, 0, none⟩)].toArray 55 (0, 0)) * (pts b2 (.cells #[.int .i64 (n : Int)] 3 (0, 0)) * R))))) ?_ ?_
    · intro kk hk
      have hU := h
      obtain ⟨rv4, ds4, cs4, h⟩ := sat_pgr.1 h
      obtain ⟨a4, c4, rfl, _, _, _⟩ := osl_shape (h.owns rv4)
      have hback : ∀ {w : World}, sat E w (pts A.q (.cells (pcells (use2 P n) A (.slice a4 (use2 P n).row.length c4)).toArray 119 (0, 0)) * (omap A.dm ds4 * (omap A.cm cs4 * (omap A.pm (pinsM (use2 P n).pins) * (osl 3 1 (.slice a4 (use2 P n).row.length c4) (use2 P n).row.length ((use2 P n).row.map iv) * (pers (immM ds4 (use2 P n).dirty) * (pers (immM cs4 (use2 P n).clean) * lgI A.p A.d A.b (use2 P n).S (pers (immS v 256 ((useB P n).map bv)) * (pts pb (.cells [Value.pointer (some ⟨A.q, 0, none⟩)].toArray 55 (0, 0)) * (pts b2 (.cells #[.int .i64 (n : Int)] 3 (0, 0)) * R)))))))))) → sat E w (pgr A (use2 P n) * (pers (immS v 256 ((useB P n).map bv)) * (pts pb (.cells [Value.pointer (some ⟨A.q, 0, none⟩)].toArray 55 (0, 0)) * (pts b2 (.cells #[.int .i64 (n : Int)] 3 (0, 0)) * R)))) := fun h => sat_pgr.2 ⟨_, ds4, cs4, h⟩
      unfold pcells at h hback
      refine dr_sl h fun w h _ => ?_
      refine ld_at (b := pb) h ?_
      simp only [↓opsA, opsB, if_true, if_false, ↓reduceIte]
      refine ld_at (b := A.q) h ?_
      simp only [↓opsA, opsB, if_true, if_false, ↓reduceIte]
      refine ld_at (b := pb) h ?_
      simp only [↓opsA, opsB, if_true, if_false, ↓reduceIte]
      refine ld_at (b := A.q) h ?_
      try simp only [↓opsA, opsB, if_true, if_false, ↓reduceIte]
      rw [hmost]
      by_cases hfull : (P.most : Int) < ((use2 P n).row.length : Int)
      · simp only [hfull, ↓opsA, opsB, if_true, if_false, ↓reduceIte]
        refine ld_at (b := pb) h ?_
        simp only [↓opsA, opsB, if_true, if_false, ↓reduceIte]
        refine ld_at (b := A.q) h ?_
        refine pvv_of (v := .func (.func 102) #[] #[.pointer (some ⟨pb, 0, none⟩)]) (fun _ => rfl) ?_
        refine IndexI_spec (p := fun x => !decide (x ∈ (use2 P n).pins)) h Rds.own (by omega) (fun x w K' h hk' => unpinned_spec (pb := pb) (q := A.q) (pm := A.pm) h rfl (hk' w h)) (fun hall w h => ?_) (fun i hi hpi hz w h => ?_)
        · simp only [↓opsA, opsB, if_true, if_false, ↓reduceIte, show ¬ (0 : Int) ≤ -1 by decide]
          refine hk _ w ⟨rfl, ?_⟩
          rw [hpins] at hall
          have hnone : ((use2 P n).row.find? fun k => !decide (k ∈ P.pins)) = none := List.find?_eq_none.2 fun x hx => by rw [hall x hx]; simp
          rw [useP_none (by omega) hnone]
          exact hback h
        · have h0i : (0 : Int) ≤ (i : Int) := by omega
          simp only [h0i, ↓opsA, opsB, if_true, if_false, ↓reduceIte]
          refine dr_sl h fun w h _ => ?_
          refine ld_at (b := pb) h ?_
          refine ld_at (b := pb) h ?_
          simp only [↓opsA, opsB, if_true, if_false, ↓reduceIte]
          refine ld_at (b := A.q) h ?_
          obtain ⟨b6, o6, rfl, hb6⟩ := win_cell ((Rds.osl).win (h.owns (.slice a4 (use2 P n).row.length c4)).drop') (j := i) (by rw [List.length_map]; exact hi)
          rw [o_index (by omega) (by omega)]
          simp only [Int.toNat_natCast, Nat.mul_one, Nat.zero_add]
          refine ld_cell hb6 ?_
          rw [List.getElem_map]
          simp only [iv]
          refine drop_spec (by omega) (hback h) fun w h => ?_
          have hsome : ((use2 P n).row.find? fun k => !decide (k ∈ P.pins)) = some (use2 P n).row[i] := by
            rw [hpins] at hpi hz
            exact find_take hi hpi hz
          have h2 := h.perm (star_comm _ _)
          refine st_at (b := pb) h2 ?_
          refine hk _ w ⟨rfl, ?_⟩
          rw [useP_some (by omega) hsome]
          exact h
      · simp only [hfull, ↓opsA, opsB, if_true, if_false, ↓reduceIte]
        refine hk _ w ⟨rfl, ?_⟩
        have hUP : useP P n = use2 P n := by unfold useP; rw [if_neg (by omega)]
        rw [hUP]
        exact hback h
    · rintro σ w ⟨rfl, h⟩
      rw [fin_nil]
      have h : sat E w (pers (immS v 256 ((useB P n).map bv)) * (pts b2 (.cells #[.int .i64 (n : Int)] 3 (0, 0)) * (pts pb (.cells [Value.pointer (some ⟨A.q, 0, none⟩)].toArray 55 (0, 0)) * (pgr A (useP P n) * R)))) := h.perm (by ac_rfl)
      refine Clone_spec h (l := useB P n) (by rw [hb256]; exact Rds.pers.left) (by omega) fun v2 w h => ?_
      rw [hb256] at h
      refine k v2 w ?_
      exact (h.perm (show _ = pers (immS v 256 ((useB P n).map bv)) * (pts b2 (.cells #[.int .i64 (n : Int)] 3 (0, 0)) * (pts pb (.cells [Value.pointer (some ⟨A.q, 0, none⟩)].toArray 55 (0, 0)) * (osl 5 1 v2 256 ((useB P n).map bv) * (pgr A (useP P n) * R)))) by ac_rfl)).drop.drop.drop
end Go.Proofs.YtfaeklinhchidaaGreat

/-
  The cache: a page is read.
-/
set_option linter.all false
set_option maxRecDepth 100000
namespace Go.Proofs.YtfaeklinhchidaaGreat
open Go Hold
variable {E : World0} {w : World} {H R X : HP} {K : Value → World → Prop}
theorem view_len {S : Lg} {gs : List (List Int)} (i : LInv S gs) {n : Nat} (h : n < S.pages) : (S.view n).length = 256 := by
  unfold Lg.view
  rw [getD_of (i.place_lt h)]
  exact i.wf.l _ (List.getElem_mem _)
theorem POk.page_len {P : Pg} {gs : List (List Int)} (ok : POk P gs) {n : Nat} (h : n < P.S.pages) : (P.page n).length = 256 := by
  unfold Pg.page
  cases e : lookB P.dirty n with
  | none => exact view_len ok.i h
  | some b => exact (ok.da _ (lookB_mem e)).2
theorem PRead_spec {A : Ad} {P : Pg} {gs : List (List Int)} (ok : POk P gs) (h : sat E w (pgr A P * R)) {n : Nat} (hn : n < P.S.pages) (hh : P.hits ≤ 1000000) (hmi : P.misses ≤ 1000000)
    (k : ∀ v w', POk (readP P n) gs → sat E w' (osl 5 1 v 256 ((P.page n).map bv) * (pgr A (readP P n) * R)) → K (.tuple #[v, .int .i64 0]) w') : Calls prog 26 #[.pointer (some ⟨A.q, 0, none⟩), .int .i64 n] w (Ret K) := by
  have hl : lookE P n = 0 := by unfold lookE; rw [if_neg (by omega)]
  have hlen := ok.page_len hn
  have hrb := ok.readB (n := n)
  refine c26 ?_
  unfold B26
  refine look_spec ok h fun w h => ?_
  simp only [hl, ↓opsA, opsB, if_true, if_false, ↓reduceIte]
  have hP := h
  obtain ⟨rv, ds, cs, h⟩ := sat_pgr.1 h
  have hrel : relM (hp w) ds P.dirty := (h.split (pers (immM ds P.dirty))).pers_get
  unfold pcells at h
  refine ld_at (b := A.q) h ?_
  refine look_d (b := A.dm) h ?_
  rcases hrel.look (k := (n : Int)) with ⟨l1, l2⟩ | ⟨cv, cb, l1, l2, l3⟩
  · rw [l1]
    simp only [Option.isSome_none, ↓opsA, opsB, if_true, if_false, ↓reduceIte]
    have hd : (n : Int) ∉ P.dirty.map (·.1) := lookB_none.1 l2
    have hr : readP P n = useP P n := by unfold readP; rw [if_pos hl, l2]; rfl
    refine use_spec ok hP hn hh hmi fun v w h => ?_
    have hub : useB P n = P.page n := by rw [← hrb]; unfold readB; rw [l2]
    rw [hub] at h
    refine k v w ?_ ?_
    · rw [hr]; exact ok.useP (by omega) (by omega) hd
    · rw [hr]; exact h
  · rw [l1]
    simp only [Option.isSome_some, Option.getD_some, ↓opsA, opsB, if_true, if_false, ↓reduceIte]
    have hr : readP P n = P := by unfold readP; rw [if_pos hl, l2]; rfl
    have hpb : P.page n = cb := by unfold Pg.page; rw [l2]; rfl
    rw [hpb] at hlen
    have h := sat_dup (immM ds P.dirty) h
    have h := h.pers_mono (ψ := immS cv cb.length (cb.map bv)) fun I hI => by
      rcases relM.look (k := (n : Int)) hI with ⟨m1, _⟩ | ⟨v', b', m1, m2, m3⟩
      · rw [m1] at l1; cases l1
      · rw [m1, Option.some.injEq] at l1
        rw [m2, Option.some.injEq] at l2
        subst l1; subst l2; exact m3
    refine Clone_spec h (v := cv) (l := cb) Rds.pers.left (by omega) fun v w h => ?_
    refine k v w (by rw [hr]; exact ok) ?_
    rw [hr, hpb]
    rw [hlen] at h
    have h := h.perm (show _ = pers (immS cv 256 (cb.map bv)) * (osl 5 1 v 256 (cb.map bv) * (pts A.q (.cells (pcells P A rv).toArray 119 (0, 0)) * (omap A.dm ds * (omap A.cm cs * (omap A.pm (pinsM P.pins) * (osl 3 1 rv P.row.length (P.row.map iv) * (pers (immM ds P.dirty) * (pers (immM cs P.clean) * lgI A.p A.d A.b P.S R)))))))) by unfold pcells; ac_rfl)
    have h := h.drop
    exact (sat_pgr.2 ⟨rv, ds, cs, h.perm (show _ = pts A.q (.cells (pcells P A rv).toArray 119 (0, 0)) * (omap A.dm ds * (omap A.cm cs * (omap A.pm (pinsM P.pins) * (osl 3 1 rv P.row.length (P.row.map iv) * (pers (immM ds P.dirty) * (pers (immM cs P.clean) * lgI A.p A.d A.b P.S (osl 5 1 v 256 (cb.map bv) * R))))))) by unfold lgI; ac_rfl)⟩).perm (star_left_comm _ _ _)
end Go.Proofs.YtfaeklinhchidaaGreat

/-
  Groups that fit are taken. No program in sight.
-/
set_option linter.all false
set_option maxRecDepth 100000
namespace Go.Proofs.YtfaeklinhchidaaGreat
open Go Hold
theorem errC_fit {S : Lg} {ps : List (Int × Bs)} (h1 : 1 ≤ ps.length) (h2 : ps.length ≤ 100) (hr : ∀ p ∈ ps, 0 ≤ p.1 ∧ p.1 < S.pages) (hf : FormP ps) : errC S ps = if S.size - S.used < ps.length + 1 then 7 else 0 := by
  unfold errC
  have ha : ps.any (rangeP S) = false := by
    rw [List.any_eq_false]
    intro p hp
    have := hr p hp
    unfold rangeP
    simp only [Bool.or_eq_true, decide_eq_true_eq]
    omega
  rw [if_neg (by omega), if_neg (by omega), if_neg (by simp [ha]), if_neg (by simpa using hf)]
structure ComOk (S : Lg) (ps : List (Int × Bs)) : Prop where
  e : comE S ps = 0
  g : (comS S ps).groups = S.groups + 1
  w1 : S.W.length + ps.length + 2 ≤ (comS S ps).W.length
  w2 : (comS S ps).W.length ≤ S.W.length + ps.length + 1027
  l : (comS S ps).L.length = S.L.length
theorem com_ok {S : Lg} {gs : List (List Int)} (i : LInv S gs) {ps : List (Int × Bs)} (h1 : 1 ≤ ps.length) (h2 : ps.length ≤ 100) (hr : ∀ p ∈ ps, 0 ≤ p.1 ∧ p.1 < S.pages) (hf : FormP ps) (hs : ps.length + 1 ≤ S.size) : ComOk S ps := by
  have hfew := i.few
  have hne : ps ≠ [] := fun e => by rw [e] at h1; simp at h1
  by_cases hfit : S.size - S.used < ps.length + 1
  · have e7 : errC S ps = 7 := by rw [errC_fit h1 h2 hr hf, if_pos hfit]
    have e0 : errC (checkS S) ps = 0 := by
      rw [errC_fit h1 h2 (by rw [check_pages]; exact hr) hf, check_used0, check_size, if_neg (by omega)]
    have hc : commitS (checkS S) ps = commitT (checkS S) ps := by unfold commitS; rw [if_pos ⟨e0, hne⟩]
    have hu : S.used ≠ 0 := fun e => by omega
    have hk : checkS S = checkT S := by unfold checkS; rw [if_neg hu]
    have hW := (checkT_len S).2
    have hL := (checkT_len S).1
    refine ⟨by unfold comE; rw [if_pos e7]; exact e0, ?_, ?_, ?_, ?_⟩ <;> unfold comS <;> rw [if_pos e7, hc]
    · rw [commitT_groups, hk]
      have : (checkT S).groups = S.groups := (backP_keep (touched S) S).2.1
      rw [this]
    · rw [(commitT_len _ _).2, hk, hW]; omega
    · rw [(commitT_len _ _).2, hk, hW]; omega
    · rw [(commitT_len _ _).1, hk, hL]
  · have e0 : errC S ps = 0 := by rw [errC_fit h1 h2 hr hf, if_neg hfit]
    have hc : commitS S ps = commitT S ps := by unfold commitS; rw [if_pos ⟨e0, hne⟩]
    have hn7 : ¬ errC S ps = 7 := by rw [e0]; decide
    refine ⟨by unfold comE; rw [if_neg hn7]; exact e0, ?_, ?_, ?_, ?_⟩ <;> unfold comS <;> rw [if_neg hn7, hc]
    · rfl
    · rw [(commitT_len _ _).2]
      exact Nat.le_refl _
    · rw [(commitT_len _ _).2]; omega
    · rw [(commitT_len _ _).1]
theorem com_nil (S : Lg) : comS S [] = S ∧ comE S [] = 0 := by
  have : errC S [] = 0 := rfl
  unfold comS comE commitS
  rw [this]
  exact ⟨rfl, rfl⟩
end Go.Proofs.YtfaeklinhchidaaGreat

/-
  A log: how much of it is used, and its groups' number.
-/
set_option linter.all false
set_option maxRecDepth 100000
namespace Go.Proofs.YtfaeklinhchidaaGreat
open Go Hold
variable {E : World0} {w : World} {H R X : HP} {K : Value → World → Prop}
end Go.Proofs.YtfaeklinhchidaaGreat

/-
  A cache's log: how much of it is used, and its groups' number.
-/
set_option linter.all false
set_option maxRecDepth 100000
namespace Go.Proofs.YtfaeklinhchidaaGreat
open Go Hold
variable {E : World0} {w : World} {H R X : HP} {K : Value → World → Prop}
end Go.Proofs.YtfaeklinhchidaaGreat

/-
  The cache of pages as the tree sees it: what each page holds.
-/
set_option linter.all false
set_option maxRecDepth 100000
namespace Go.Proofs.YtfaeklinhchidaaGreat
open Go Hold
variable {E : World0} {w : World} {H R X : HP} {K : Value → World → Prop}
structure PX (P : Pg) (gs : List (List Int)) (N : Nat) (ct : Nat → PgC) (d k c : Nat) : Prop where
  ok : POk P gs
  sz : P.S.size = 110
  pg : P.S.pages = N
  g : P.S.groups ≤ k
  wl : P.S.W.length ≤ 1200 * k
  hm : P.hits + P.misses + c ≤ 1000000
  dl : P.dirty.length ≤ d
  v : ∀ n, n < N → P.page n = (ct n).bytes
theorem PX.read {P : Pg} {gs : List (List Int)} {N : Nat} {ct : Nat → PgC} {d k c : Nat} (x : PX P gs N ct d k (c + 1)) (n : Nat) (h : POk (readP P n) gs) : PX (readP P n) gs N ct d k c := by
  have key : (readP P n).S = P.S ∧ (readP P n).dirty = P.dirty ∧ (readP P n).hits + (readP P n).misses ≤ P.hits + P.misses + 1 := by
    unfold readP
    split
    · split
      · exact ⟨rfl, rfl, by omega⟩
      · have e1 := useP_same (P := P) (n := n)
        refine ⟨e1.1, e1.2.1, ?_⟩
        have e2 : (useP P n).hits = (use1 P n).hits ∧ (useP P n).misses = (use1 P n).misses := by
          unfold useP
          split
          · split <;> exact ⟨rfl, rfl⟩
          · exact ⟨rfl, rfl⟩
        rw [e2.1, e2.2]
        unfold use1; split
        · show P.hits + 1 + P.misses ≤ _; omega
        · show P.hits + (P.misses + 1) ≤ _; omega
    · exact ⟨rfl, rfl, by omega⟩
  obtain ⟨e1, e2, e3⟩ := key
  have := x.hm
  exact ⟨h, by rw [e1]; exact x.sz, by rw [e1]; exact x.pg, by rw [e1]; exact x.g, by rw [e1]; exact x.wl, by omega, by rw [e2]; exact x.dl, fun m hm => by
    unfold Pg.page; rw [e1, e2]; exact x.v m hm⟩
theorem PX.write {P : Pg} {gs : List (List Int)} {N : Nat} {ct : Nat → PgC} {d k c : Nat} (x : PX P gs N ct d k c) {n : Nat} (hn : n < N) {y : PgC} (hy : y.Ok) (hd : d < 100) :
    writeE P n y.bytes = 0 ∧ PX (writeP P n y.bytes) gs N (upd ct n y) (d + 1) k c := by
  have hpg := x.pg; have hdl := x.dl
  have he : writeE P n y.bytes = 0 := by
    unfold writeE lookE
    rw [if_neg (by rw [if_neg (by omega)]; simp), if_neg (by rw [PgC.len hy]; omega), if_neg (by omega)]
  refine ⟨he, ?_⟩
  unfold writeP
  rw [if_pos he]
  refine ⟨x.ok.write he, x.sz, x.pg, x.g, x.wl, x.hm, ?_, fun m hm => ?_⟩
  · show (putB P.dirty n y.bytes).length ≤ d + 1
    rw [putB_len]; split <;> omega
  · show (lookB (putB P.dirty n y.bytes) m).getD (P.S.view m) = _
    rw [lookB_put]
    unfold upd
    by_cases e : m = n
    · subst e; rw [if_pos rfl, if_pos rfl]; rfl
    · rw [if_neg (by omega), if_neg e]; exact x.v m hm
theorem PX.com {P : Pg} {gs : List (List Int)} {N : Nat} {ct : Nat → PgC} {d k c : Nat} (x : PX P gs N ct d k c) :
    comE P.S P.dirty = 0 ∧ ∃ gs', PX (comP P) gs' N ct 0 (k + 1) c := by
  have hpg := x.pg; have hdl := x.ok.dl; have hsz := x.sz; have hg := x.g; have hwl := x.wl
  obtain ⟨gs', ok'⟩ := x.ok.com
  by_cases hd : P.dirty.length = 0
  · have hd0 := List.length_eq_zero_iff.1 hd
    obtain ⟨c1, c2⟩ := com_nil P.S
    have hs : (comP P).S = P.S := by show comS P.S P.dirty = _; rw [hd0, c1]
    have hdd : (comP P).dirty = [] := by show (if comE P.S P.dirty = 0 then [] else P.dirty) = []; rw [hd0, c2]; rfl
    refine ⟨by rw [hd0, c2], gs', ok', by rw [hs]; exact hsz, by rw [hs]; exact hpg, by rw [hs]; omega, by rw [hs]; omega, x.hm, by rw [hdd]; simp, fun n hn => ?_⟩
    have := x.v n hn
    unfold Pg.page at this ⊢
    rw [hs, hdd]
    rw [hd0] at this
    exact this
  · have hco := com_ok x.ok.i (ps := P.dirty) (by omega) (by omega) (fun p hp => (x.ok.da p hp).1) ⟨x.ok.dn, fun p hp => (x.ok.da p hp).2⟩ (by omega)
    have g1 := hco.w1; have g2 := hco.w2; have g3 := hco.l; have g4 := hco.g
    have hdd : (comP P).dirty = [] := by show (if comE P.S P.dirty = 0 then [] else P.dirty) = []; rw [if_pos hco.e]
    refine ⟨hco.e, gs', ok', ?_, ?_, ?_, ?_, x.hm, by rw [hdd]; simp, fun n hn => ?_⟩
    · show (comS P.S P.dirty).size = 110
      rw [com_size]; exact hsz
    · show (comS P.S P.dirty).pages = N
      rw [com_pages]; exact hpg
    · show (comS P.S P.dirty).groups ≤ k + 1; omega
    · show (comS P.S P.dirty).W.length ≤ 1200 * (k + 1); omega
    · unfold Pg.page
      rw [hdd]
      show (comS P.S P.dirty).view n = _
      rw [x.ok.i.com_view (by omega), if_pos hco.e]
      exact x.v n hn
/-- The cache, by what its pages hold. -/
def pX (A : Ad) (N : Nat) (ct : Nat → PgC) (d k c : Nat) : HP := ex fun q : Pg × List (List Int) => pur (PX q.1 q.2 N ct d k c) * pgr A q.1
theorem sat_pX {A : Ad} {N : Nat} {ct : Nat → PgC} {d k c : Nat} : sat E w (pX A N ct d k c * R) ↔ ∃ P gs, PX P gs N ct d k c ∧ sat E w (pgr A P * R) := by
  unfold pX
  rw [sat_ex_star]
  constructor
  · rintro ⟨⟨P, gs⟩, h⟩
    simp only [star_assoc] at h
    rw [sat_pur_star] at h
    exact ⟨P, gs, h.1, h.2⟩
  · rintro ⟨P, gs, h1, h2⟩
    refine ⟨(P, gs), ?_⟩
    simp only [star_assoc]
    rw [sat_pur_star]
    exact ⟨h1, h2⟩
theorem pX_le {A : Ad} {N : Nat} {ct : Nat → PgC} {d k c d' k' c' : Nat} (h : sat E w (pX A N ct d k c * R)) (h1 : d ≤ d') (h2 : k ≤ k') (h3 : c' ≤ c) : sat E w (pX A N ct d' k' c' * R) := by
  obtain ⟨P, gs, x, h⟩ := sat_pX.1 h
  have := x.g; have := x.wl; have := x.hm; have := x.dl
  exact sat_pX.2 ⟨P, gs, ⟨x.ok, x.sz, x.pg, by omega, by omega, by omega, by omega, x.v⟩, h⟩
theorem XRead_spec {A : Ad} {N : Nat} {ct : Nat → PgC} {d k c : Nat} (h : sat E w (pX A N ct d k (c + 1) * R)) {n : Nat} (hn : n < N)
    (kk : ∀ v w', sat E w' (osl 5 1 v 256 ((ct n).bytes.map bv) * (pX A N ct d k c * R)) → K (.tuple #[v, .int .i64 0]) w') : Calls prog 26 #[.pointer (some ⟨A.q, 0, none⟩), .int .i64 n] w (Ret K) := by
  obtain ⟨P, gs, x, h⟩ := sat_pX.1 h
  have hpg := x.pg; have hhm := x.hm
  refine PRead_spec x.ok h (by omega) (by omega) (by omega) fun v w ok' h => kk v w ?_
  rw [x.v n hn] at h
  have h2 : sat E w (pX A N ct d k c * (osl 5 1 v 256 ((ct n).bytes.map bv) * R)) := sat_pX.2 ⟨_, gs, x.read n ok', h.perm (star_left_comm _ _ _)⟩
  exact h2.perm (star_left_comm _ _ _)
theorem XWrite_spec {A : Ad} {N : Nat} {ct : Nat → PgC} {d k c : Nat} (h : sat E w (pX A N ct d k c * R)) {n : Nat} (hn : n < N) {y : PgC} (hy : y.Ok) (hd : d < 100) {v : Value} (hv : Rds R v 256 (y.bytes.map bv))
    (kk : ∀ w', sat E w' (pX A N (upd ct n y) (d + 1) k c * R) → K (.int .i64 0) w') : Calls prog 88 #[.pointer (some ⟨A.q, 0, none⟩), .int .i64 n, v] w (Ret K) := by
  obtain ⟨P, gs, x, h⟩ := sat_pX.1 h
  obtain ⟨he, x'⟩ := x.write hn hy hd
  refine PWrite_spec x.ok h (b := y.bytes) (by rw [PgC.len hy]; exact hv) (by rw [PgC.len hy]; omega) fun w h => ?_
  rw [he]
  exact kk w (sat_pX.2 ⟨_, gs, x', h⟩)
theorem XCommit_spec {A : Ad} {N : Nat} {ct : Nat → PgC} {d k c : Nat} (h : sat E w (pX A N ct d k c * R)) (hk : k ≤ 700)
    (kk : ∀ w', sat E w' (pX A N ct 0 (k + 1) c * R) → K (.int .i64 0) w') : Calls prog 23 #[.pointer (some ⟨A.q, 0, none⟩)] w (Ret K) := by
  obtain ⟨P, gs, x, h⟩ := sat_pX.1 h
  obtain ⟨he, gs', x'⟩ := x.com
  have hwl := x.wl; have hg := x.g
  refine PCommit_spec x.ok h (by omega) (by omega) fun w h => ?_
  rw [he]
  exact kk w (sat_pX.2 ⟨_, gs', x', h⟩)
theorem XLog_spec {A : Ad} {N : Nat} {ct : Nat → PgC} {d k c : Nat} (h : sat E w (pX A N ct d k c * R)) (kk : K (.pointer (some ⟨A.p, 0, none⟩)) w) : Calls prog 27 #[.pointer (some ⟨A.q, 0, none⟩)] w (Ret K) := by
  obtain ⟨P, gs, x, h⟩ := sat_pX.1 h
  exact Log_spec h kk
theorem XPages_spec {A : Ad} {N : Nat} {ct : Nat → PgC} {d k c : Nat} (h : sat E w (pX A N ct d k c * R)) (kk : ∀ w', sat E w' (pX A N ct d k c * R) → K (.int .i64 N) w') : Calls prog 28 #[.pointer (some ⟨A.p, 0, none⟩)] w (Ret K) := by
  obtain ⟨P, gs, x, h⟩ := sat_pX.1 h
  obtain ⟨Y, h, hb⟩ := pgr_log h
  have hsz := x.ok.i.sz; have hle := x.ok.i.wf.le
  refine Pages_spec h (by omega) hle fun w h => ?_
  rw [x.pg]
  exact kk w (sat_pX.2 ⟨P, gs, x, hb h⟩)
theorem XDirty_spec {A : Ad} {N : Nat} {ct : Nat → PgC} {k c : Nat} (h : sat E w (pX A N ct 0 k c * R)) (kk : ∀ u w', sat E w' (osl 3 1 u 0 [] * (pX A N ct 0 k c * R)) → K u w') : Calls prog 46 #[.pointer (some ⟨A.q, 0, none⟩)] w (Ret K) := by
  obtain ⟨P, gs, x, h⟩ := sat_pX.1 h
  have hd0 := List.length_eq_zero_iff.1 (Nat.le_zero.1 x.dl)
  refine Dirty_spec x.ok h fun u w h => kk u w ?_
  have e : dirtyN P = [] := by unfold dirtyN; rw [hd0]; exact List.length_eq_zero_iff.1 (by rw [sortI_length]; rfl)
  rw [e, hd0] at h
  have h2 : sat E w (pX A N ct 0 k c * (osl 3 1 u 0 [] * R)) := sat_pX.2 ⟨P, gs, x, h.perm (star_left_comm _ _ _)⟩
  exact h2.perm (star_left_comm _ _ _)
end Go.Proofs.YtfaeklinhchidaaGreat

/-
  A node as a page.
-/
set_option linter.all false
set_option maxRecDepth 100000
namespace Go.Proofs.YtfaeklinhchidaaGreat
open Go Hold
variable {E : World0} {w : World} {H R X : HP} {K : Value → World → Prop}
/-- append within what the row has room for. -/
theorem append_in {P : Program} (h : sat E w H) {t ty e m : Nat} {z : Value} [i : SliceT P t e 1 m z] {cs : Array Bool} {b n cap : Nat} {xs sp : List Value} [hs : Own H b (.cells (xs ++ sp).toArray e (0, 0)) R]
    (hn : xs.length = n) (hcl : (xs ++ sp).length = cap) {a : Option Addr} {k' c : Nat} (news : List Value) (hl : news.length = k') (hw : win (hp w) a news) (h1 : ∀ x ∈ news, x.oneCell' = true) (hroom : n + k' ≤ cap)
    (k : ∀ w', sat E w' (pts b (.cells ((xs ++ news) ++ sp.drop k').toArray e (0, 0)) * R) → K (.slice (some ⟨b, 0, none⟩) (n + k') cap) w') : ef P (oBi .append #[t, t] ty cs #[.slice (some ⟨b, 0, none⟩) n cap, .slice a k' c]) w K := by
  obtain ⟨y, hy, hy1, hy2, hy3⟩ := i.parts
  have ef_bi : ∀ {v' w'}, (Builtin.append_ #[t, t] ty #[.slice (some ⟨b, 0, none⟩) n cap, .slice a k' c]).run P w = .ok v' w' → K v' w' → ef P (oBi .append #[t, t] ty cs #[.slice (some ⟨b, 0, none⟩) n cap, .slice a k' c]) w K := fun hr hk =>
    ef_of (by simp [oBi, builtin, hr]) hk
  have hP := h.own b
  by_cases hk0 : k' = 0
  · subst hk0
    have hnn : news = [] := List.eq_nil_of_length_eq_zero hl
    subst hnn
    refine ef_bi (v' := .slice (some ⟨b, 0, none⟩) (n + 0) cap) (w' := w) ?_ (k _ ?_)
    · have hst : ∀ (ad : Addr), (storeCells ad ([] : List Value) 0).run P w = .ok () w := fun ad => rfl
      have : n ≤ cap := by omega
      cases a <;> simp [Builtin.append_, run_underlying' i.ul, Go.sizeOf, typeInfo, hy, Builtin.lenOf, Builtin.firstCells, loadCells, loadCellsFrom, this, hst]
    · simpa using hP
  · rcases hw with rfl | ⟨b2, o2, cs2, e2, fr2, rfl, hb2, hv2⟩
    · exfalso; simp at hl; omega
    · have hbl := hP.pts_get
      have hfit : n * y.size + news.length ≤ (xs ++ sp).toArray.size := by
        rw [hy2, hl]; simp only [List.size_toArray]; omega
      have hr := run_append_room (P := P) w t ty e y i.ul hy b n cap (xs ++ sp).toArray hbl ⟨b2, o2, none⟩ k' c news (by rw [hy2]; omega) (fun j v hj => by rw [add_addr]; exact cell_of hb2 (hv2 j v hj)) h1 hroom hfit
      rw [setRow_putObj hbl] at hr
      refine ef_bi hr (k _ ?_)
      have e1 : ((xs ++ sp).toArray.toList.take (n * y.size) ++ news ++ (xs ++ sp).toArray.toList.drop (n * y.size + news.length)) = (xs ++ news) ++ sp.drop k' := by
        rw [hy2, Nat.mul_one, ← hn, hl]
        simp [List.take_left', List.drop_append]
      rw [e1]
      exact hP.set _
theorem bv_lo (n : Nat) : Value.int .u8 (IntKind.u8.wrap (n : Int)) = bv (UInt8.ofNat n) := by
  have : IntKind.u8.wrap (n : Int) = ((n % 256 : Nat) : Int) := by rw [IntKind.wrap_u8]; omega
  rw [this]
  unfold bv
  congr 1
def z8 : Value := .int .u8 0
/-- A row of 256 bytes of which some stand already. -/
def rowB (b : Nat) (l : Bs) : HP := pts b (.cells (l.map bv ++ List.replicate (256 - l.length) z8).toArray 5 (0, 0))
theorem rowB_app {b : Nat} {l : Bs} (h : sat E w (rowB b l * R)) {ty : Nat} {cs : Array Bool} {a : Option Addr} {c : Nat} {news : Bs} (hw : RdS (hp w) (.slice a news.length c) news.length (news.map bv)) (hr : l.length + news.length ≤ 256) {n : Nat} (hn : n = l.length)
    (k : ∀ w', sat E w' (rowB b (l ++ news) * R) → K (.slice (some ⟨b, 0, none⟩) (n + news.length) 256) w') :
    ef prog (oBi .append #[22, 22] ty cs #[.slice (some ⟨b, 0, none⟩) n 256, .slice a news.length c]) w K := by
  subst hn
  unfold rowB at h
  obtain ⟨a', c', e', _, hw⟩ := hw
  cases e'
  refine append_in (b := b) h (by simp) (by simp; omega) (news.map bv) (by simp) hw (bv_one news) hr fun w h => k w ?_
  unfold rowB
  rw [List.drop_replicate, show 256 - l.length - news.length = 256 - (l ++ news).length by rw [List.length_append]; omega] at h
  rw [List.map_append]
  exact h
theorem pad_row {b : Nat} {l : Bs} (h : sat E w (rowB b l * R)) : sat E w (pts b (.cells ((pad l).map bv).toArray 5 (0, 0)) * R) := by
  unfold rowB at h
  unfold pad
  rw [List.map_append, List.map_replicate]
  exact h
theorem bld1 (h : sat E w H) (x : UInt8) {n : Int} (hx : Value.int .u8 n = bv x) (k : ∀ b w', sat E w' (pts b (.cells [bv x].toArray 5 (0, 0)) * H) → K (.slice (some ⟨b, 0, none⟩) 1 1) w') :
    efv prog (Instr.buildSlice 22 1 #[(0, .int .u8 n)]) w K := by
  rw [hx]
  exact buildSlice_sl (e := 5) (cs := [bv x].toArray) h (fun w => by kernel_rfl) k
theorem enB_lf (e : En) : enB true e = [lo8 e.k.length] ++ e.k ++ [lo8 e.v.length] ++ e.v := by simp [enB]
theorem enB_in (e : En) : enB false e = [lo8 e.k.length] ++ e.k ++ [hi8 e.pg, lo8 e.pg] := by simp [enB]
theorem o_shr8 {t : TypeId} {n : Nat} (hn : n < 2 ^ 62) : pvv prog (binOp .shr t (.int .i64 (n : Int)) (.int .u64 8)) w K = K (.int .i64 ((n / 256 : Nat) : Int)) w := by
  rw [show (8 : Int) = ((8 : Nat) : Int) from rfl, o_shr (by decide)]
theorem raw_take (n : Nd) {i : Nat} (h : i < n.l.length) : (n.l.take (i + 1)).flatMap (enB n.leaf) = (n.l.take i).flatMap (enB n.leaf) ++ enB n.leaf n.l[i] := by
  rw [List.take_succ_eq_append_getElem h, List.flatMap_append]; simp
theorem flat_len (lf : Bool) (l m : List En) : (l.flatMap (enB lf)).length = (l.map (⟨lf, m⟩ : Nd).one).sum := by
  induction l with
  | nil => rfl
  | cons e l ih => rw [List.flatMap_cons, List.length_append, ih, enB_len, List.map_cons, List.sum_cons]; rfl
theorem sum_part (n : Nd) {i : Nat} : ((n.l.take i).map n.one).sum ≤ n.bytes := by
  unfold Nd.bytes
  conv => rhs; rw [← List.take_append_drop i n.l, List.map_append, List.sum_append]
  omega
theorem two_le (n : Nd) (e : En) : 2 ≤ n.one e := by unfold Nd.one; split <;> omega
theorem len_bytes (n : Nd) : n.l.length * 2 ≤ n.bytes := by
  have : ∀ l : List En, l.length * 2 ≤ (l.map n.one).sum := by
    intro l
    induction l with
    | nil => simp
    | cons e l ih => have := two_le n e; simp only [List.length_cons, List.map_cons, List.sum_cons]; omega
  exact this n.l
def headB (n : Nd) : Bs := [if n.leaf then 76 else 73, hi8 n.l.length, lo8 n.l.length]
theorem page_spec (h : sat E w H) {leaf : Bool} {lv : Value} {xs : List Ev} (hl : Rds H lv xs.length (elv xs)) (hr : ∀ x ∈ xs, EvR H x) (ok : NdOk ⟨leaf, esv xs⟩)
    (k : ∀ b w', sat E w' (pts b (.cells ((pad (⟨leaf, esv xs⟩ : Nd).raw).map bv).toArray 5 (0, 0)) * H) → K (.slice (some ⟨b, 0, none⟩) 256 256) w') : Calls prog 50 #[nv leaf lv] w (Ret K) := by
  obtain ⟨a, c, rfl, hc, hl, _⟩ := hl.shape h
  have hb := ok.b
  have hlen : (⟨leaf, esv xs⟩ : Nd).l.length = xs.length := by simp [esv]
  have hl2 := len_bytes ⟨leaf, esv xs⟩
  rw [hlen] at hl2
  refine c50 ?_
  unfold B50
  refine box_sl h fun n0 w h => ?_
  have h : sat E w (pts n0 (.cells [Value.bool leaf, .slice a xs.length c].toArray 63 (0, 0)) * H) := h
  refine make_sl h rfl (by omega) (by omega) (by omega) (by omega) fun b w h => ?_
  have h : sat E w (pts b (.cells (z8 :: z8 :: z8 :: List.replicate 253 z8).toArray 5 (0, 0)) * (pts n0 (.cells [Value.bool leaf, .slice a xs.length c].toArray 63 (0, 0)) * H)) := h
  refine dr_sl h fun w h _ => ?_
  simp only [↓opsA, opsB, if_true, if_false, ↓reduceIte, show (3 : Int).toNat = 3 from rfl, show (256 : Int).toNat = 256 from rfl]
  rw [o_index (by omega) (by omega)]
  simp only [↓opsA, opsB, if_true, if_false, ↓reduceIte, Int.toNat_zero, Nat.zero_mul]
  refine ld_in (b := n0) (v := .slice a xs.length c) h rfl ?_
  simp only [↓opsA, opsB, if_true, if_false, ↓reduceIte]
  rw [o_shr8 (by omega)]
  simp only [↓opsA, opsB, if_true, if_false, ↓reduceIte]
  refine ld_in (b := n0) (v := .slice a xs.length c) h rfl ?_
  simp only [↓opsA, opsB, if_true, if_false, ↓reduceIte]
  rw [bv_lo, bv_lo]
  refine store_at (b := b) h rfl (by simp) fun w h => ?_
  refine st_in (b := n0) (xs := [Value.bool leaf, .slice a xs.length c]) h rfl ?_
  refine st_in (b := n0) (xs := [Value.bool leaf, .slice a xs.length c]) h rfl ?_
  rw [o_index (by omega) (by omega)]
  simp only [↓opsA, opsB, if_true, if_false, ↓reduceIte, show (1 : Int).toNat * 1 = 1 from rfl]
  refine store_at (b := b) h rfl (by simp) fun w h => ?_
  refine st_in (b := n0) (xs := [Value.bool leaf, .slice a xs.length c]) h rfl ?_
  rw [o_index (by omega) (by omega)]
  simp only [↓opsA, opsB, if_true, if_false, ↓reduceIte, show (2 : Int).toNat * 1 = 2 from rfl]
  refine store_at (b := b) h rfl (by simp) fun w h => ?_
  refine jn_cut (fun σ w => σ = [] ∧ sat E w (rowB b (headB ⟨leaf, esv xs⟩) * (pts n0 (.cells [Value.bool leaf, .slice a xs.length c].toArray 63 (0, 0)) * H))) ?_ ?_
  · intro kk hk
    try simp only [↓opsA, opsB, if_true, if_false, ↓reduceIte]
    refine ld_in (b := n0) (v := .bool leaf) h rfl ?_
    cases leaf
    · simp only [↓opsA, opsB, if_true, if_false, ↓reduceIte]
      refine hk _ _ ⟨rfl, ?_⟩
      unfold rowB headB
      rw [hlen]
      exact h
    · simp only [↓opsA, opsB, if_true, if_false, ↓reduceIte]
      rw [o_index (by omega) (by omega)]
      simp only [↓opsA, opsB, if_true, if_false, ↓reduceIte, Int.toNat_zero, Nat.zero_mul]
      refine store_at (b := b) h rfl (by simp) fun w h => ?_
      refine hk _ _ ⟨rfl, ?_⟩
      unfold rowB headB
      rw [hlen]
      exact h
  clear h
  rintro σ w ⟨rfl, h⟩
  rw [fin_nil]
  try simp only [↓opsA, opsB, if_true, if_false, ↓reduceIte]
  refine ld_in (b := n0) (v := .slice a xs.length c) h rfl ?_
  try simp only [↓opsA, opsB, if_true, if_false, ↓reduceIte]
  refine lp_nat (fun q σ w => ∃ i : Nat, σ = [.slice (some ⟨b, 0, none⟩) (3 + (((esv xs).take i).map (⟨leaf, esv xs⟩ : Nd).one).sum) 256, .int .i64 i] ∧ q = xs.length - i ∧ i ≤ xs.length ∧ sat E w (rowB b (headB ⟨leaf, esv xs⟩ ++ ((esv xs).take i).flatMap (enB leaf)) * (pts n0 (.cells [Value.bool leaf, .slice a xs.length c].toArray 63 (0, 0)) * H))) xs.length ⟨0, rfl, rfl, by omega, by simpa using h⟩ ?_
  clear h
  rintro q σ w again ⟨i, rfl, rfl, hi, h⟩ hag
  have hL : (headB ⟨leaf, esv xs⟩ ++ ((esv xs).take i).flatMap (enB leaf)).length = 3 + (((esv xs).take i).map (⟨leaf, esv xs⟩ : Nd).one).sum := by
    rw [List.length_append, flat_len leaf _ (esv xs)]; rfl
  try simp only [↓opsA, opsB, if_true, if_false, ↓reduceIte]
  refine cd_dec (fun hlt => ?_) (fun hge => ?_)
  · have hlt : i < xs.length := by omega
    have hlt2 : i < (⟨leaf, esv xs⟩ : Nd).l.length := by rw [hlen]; exact hlt
    have e3 : (⟨leaf, esv xs⟩ : Nd).l[i] = xs[i].e := List.getElem_map (fun x : Ev => x.e)
    have e1 := sum_take (f := (⟨leaf, esv xs⟩ : Nd).one) (l := esv xs) (i := i) hlt2
    have e2 := sum_part ⟨leaf, esv xs⟩ (i := i + 1)
    have e4 := raw_take ⟨leaf, esv xs⟩ hlt2
    have e2 : (((esv xs).take (i + 1)).map (⟨leaf, esv xs⟩ : Nd).one).sum ≤ (⟨leaf, esv xs⟩ : Nd).bytes := e2
    have e4 : ((esv xs).take (i + 1)).flatMap (enB leaf) = ((esv xs).take i).flatMap (enB leaf) ++ enB leaf xs[i].e := by rw [← e3]; exact e4
    have e1 : (((esv xs).take (i + 1)).map (⟨leaf, esv xs⟩ : Nd).one).sum = (((esv xs).take i).map (⟨leaf, esv xs⟩ : Nd).one).sum + (⟨leaf, esv xs⟩ : Nd).one xs[i].e := by rw [← e3]; exact e1
    have eo := ok.e xs[i].e (List.mem_map_of_mem (List.getElem_mem hlt))
    have hev := hr xs[i] (List.getElem_mem hlt)
    generalize hLd : headB ⟨leaf, esv xs⟩ ++ ((esv xs).take i).flatMap (enB leaf) = L at h hL
    refine jn_cut (fun σ w => σ = [.slice (some ⟨b, 0, none⟩) (L ++ enB leaf xs[i].e).length 256] ∧ sat E w (rowB b (L ++ enB leaf xs[i].e) * (pts n0 (.cells [Value.bool leaf, .slice a xs.length c].toArray 63 (0, 0)) * H))) ?_ ?_
    · intro kk hk
      clear hag
      rw [← hL]
      obtain ⟨b1, o1, rfl, hld⟩ := ld_ev h.drop.drop hl hlt
      rw [o_index (by omega) (by omega)]
      simp only [Int.toNat_natCast]
      refine hld ?_
      refine alloc_sl h fun e0 w h => ?_
      have h : sat E w (pts e0 (.cells [Value.slice none 0 0, .slice none 0 0, .int .i64 0].toArray 67 (0, 0)) * (rowB b L * (pts n0 (.cells [Value.bool leaf, .slice (some ⟨b1, o1, none⟩) xs.length c].toArray 63 (0, 0)) * H))) := h
      refine store_all (b := e0) h rfl rfl (by simp [ecells, Ev.kv, Ev.vv, Value.oneCell']) fun w h => ?_
      generalize hx : xs[i] = x at *
      have hone : (⟨leaf, esv xs⟩ : Nd).one x.e = (enB leaf x.e).length := by rw [enB_len]; rfl
      have hel := enB_len leaf x.e
      have hge : 1 + x.e.k.length ≤ (enB leaf x.e).length := by cases leaf <;> simp [enB] <;> omega
      have hbyte : L.length + (enB leaf x.e).length ≤ 256 := by omega
      have hst : ∀ {w : World} {Y : HP}, sat E w (Y * (pts e0 (.cells (ecells x).toArray 67 (0, 0)) * (rowB b L * (pts n0 (.cells [Value.bool leaf, .slice (some ⟨b1, o1, none⟩) xs.length c].toArray 63 (0, 0)) * H)))) → True := fun _ => trivial
      refine dr_sl h fun w h _ => ?_
      try simp only [↓opsA, opsB, if_true, if_false, ↓reduceIte]
      refine ld_in (b := e0) (xs := ecells x) (v := x.kv) h rfl ?_
      unfold Ev.kv
      simp only [↓opsA, opsB, if_true, if_false, ↓reduceIte]
      rw [bv_lo]
      refine ld_in (b := e0) (xs := ecells x) (v := x.kv) h rfl ?_
      refine bld1 h (lo8 x.e.k.length) rfl fun b2 w h => ?_
      refine st_in (b := e0) (xs := ecells x) (v := x.kv) h rfl ?_
      refine st_in (b := e0) (xs := ecells x) (v := x.kv) h rfl ?_
      have hw1 : RdS (hp w) (.slice (some ⟨b2, 0, none⟩) [lo8 x.e.k.length].length 1) [lo8 x.e.k.length].length ([lo8 x.e.k.length].map bv) := osl_rd (osl_of h (sz := 1) rfl (by simp))
      have h := h.split (rowB b L)
      refine rowB_app h hw1 (by simp only [List.length_cons, List.length_nil]; omega) rfl fun w h => ?_
      refine st_in (b := e0) (xs := ecells x) (v := x.kv) h rfl ?_
      refine st_in (b := e0) (xs := ecells x) (v := x.kv) h rfl ?_
      have hl3 : (L ++ [lo8 x.e.k.length]).length = L.length + 1 := by simp
      refine rowB_app h (hev.k E w h.drop.drop.drop.drop) (by omega) (by rw [hl3]; rfl) fun w h => ?_
      refine st_in (b := e0) (xs := ecells x) (v := x.kv) h rfl ?_
      try simp only [↓opsA, opsB, if_true, if_false, ↓reduceIte]
      refine ld_in (b := n0) (v := .bool leaf) h rfl ?_
      have hk8 : (L ++ [lo8 x.e.k.length] ++ x.e.k).length = L.length + 1 + x.e.k.length := by rw [List.length_append, hl3]
      have hA : ∀ {Y : HP} {w : World}, sat E w (Y * (pts b2 (.cells [bv (lo8 x.e.k.length)].toArray 5 (0, 0)) * (pts e0 (.cells (ecells x).toArray 67 (0, 0)) * (pts n0 (.cells [Value.bool leaf, .slice (some ⟨b1, o1, none⟩) xs.length c].toArray 63 (0, 0)) * H)))) → sat E w (Y * (pts n0 (.cells [Value.bool leaf, .slice (some ⟨b1, o1, none⟩) xs.length c].toArray 63 (0, 0)) * H)) := fun {Y w} h => by
        have h := h.perm (show _ = pts b2 (.cells [bv (lo8 x.e.k.length)].toArray 5 (0, 0)) * (pts e0 (.cells (ecells x).toArray 67 (0, 0)) * (Y * (pts n0 (.cells [Value.bool leaf, .slice (some ⟨b1, o1, none⟩) xs.length c].toArray 63 (0, 0)) * H))) by ac_rfl)
        exact h.drop.drop
      cases leaf
      · rw [cd_false]
        have hel : (enB false x.e).length = x.e.k.length + 3 := hel
        have hpg := eo.p
        try simp only [↓opsA, opsB, if_true, if_false, ↓reduceIte]
        refine ld_in (b := e0) (xs := ecells x) (v := .int .i64 x.e.pg) h rfl ?_
        rw [o_shr8 (by omega)]
        try simp only [↓opsA, opsB, if_true, if_false, ↓reduceIte]
        refine ld_in (b := e0) (xs := ecells x) (v := .int .i64 x.e.pg) h rfl ?_
        try simp only [↓opsA, opsB, if_true, if_false, ↓reduceIte]
        rw [bv_lo, bv_lo]
        refine buildSlice_sl (e := 5) (cs := [bv (hi8 x.e.pg), bv (lo8 x.e.pg)].toArray) h (fun w => by kernel_rfl) fun b3 w h => ?_
        have hw2 : RdS (hp w) (.slice (some ⟨b3, 0, none⟩) [hi8 x.e.pg, lo8 x.e.pg].length 2) [hi8 x.e.pg, lo8 x.e.pg].length ([hi8 x.e.pg, lo8 x.e.pg].map bv) := osl_rd (osl_of h (sz := 1) rfl (by simp))
        have h := h.split (rowB b (L ++ [lo8 x.e.k.length] ++ x.e.k))
        refine rowB_app h hw2 (by simp only [List.length_cons, List.length_nil]; omega) (by rw [hk8]; rfl) fun w h => ?_
        refine hk _ _ ⟨?_, ?_⟩
        · rw [List.length_append, hel]
          simp only [List.length_cons, List.length_nil]
          congr 2
          omega
        · rw [enB_in, ← List.append_assoc, ← List.append_assoc]
          have h := h.perm (show _ = pts b3 (.cells [bv (hi8 x.e.pg), bv (lo8 x.e.pg)].toArray 5 (0, 0)) * (rowB b (L ++ [lo8 x.e.k.length] ++ x.e.k ++ [hi8 x.e.pg, lo8 x.e.pg]) * (pts b2 (.cells [bv (lo8 x.e.k.length)].toArray 5 (0, 0)) * (pts e0 (.cells (ecells x).toArray 67 (0, 0)) * (pts n0 (.cells [Value.bool false, .slice (some ⟨b1, o1, none⟩) xs.length c].toArray 63 (0, 0)) * H)))) by ac_rfl)
          exact hA h.drop
      · rw [cd_true]
        have hel : (enB true x.e).length = x.e.k.length + x.e.v.length + 2 := hel
        refine dr_sl h fun w h _ => ?_
        try simp only [↓opsA, opsB, if_true, if_false, ↓reduceIte]
        refine ld_in (b := e0) (xs := ecells x) (v := x.vv) h rfl ?_
        unfold Ev.vv
        simp only [↓opsA, opsB, if_true, if_false, ↓reduceIte]
        rw [bv_lo]
        refine ld_in (b := e0) (xs := ecells x) (v := x.vv) h rfl ?_
        refine bld1 h (lo8 x.e.v.length) rfl fun b3 w h => ?_
        refine st_in (b := e0) (xs := ecells x) (v := x.vv) h rfl ?_
        refine st_in (b := e0) (xs := ecells x) (v := x.vv) h rfl ?_
        have hw2 : RdS (hp w) (.slice (some ⟨b3, 0, none⟩) [lo8 x.e.v.length].length 1) [lo8 x.e.v.length].length ([lo8 x.e.v.length].map bv) := osl_rd (osl_of h (sz := 1) rfl (by simp))
        have h := h.split (rowB b (L ++ [lo8 x.e.k.length] ++ x.e.k))
        refine rowB_app h hw2 (by simp only [List.length_cons, List.length_nil]; omega) (by rw [hk8]; rfl) fun w h => ?_
        refine st_in (b := e0) (xs := ecells x) (v := x.vv) h rfl ?_
        refine st_in (b := e0) (xs := ecells x) (v := x.vv) h rfl ?_
        have hl4 : (L ++ [lo8 x.e.k.length] ++ x.e.k ++ [lo8 x.e.v.length]).length = L.length + 1 + x.e.k.length + 1 := by rw [List.length_append, hk8]; rfl
        refine rowB_app h (hev.v E w h.drop.drop.drop.drop.drop) (by omega) (by rw [hl4]; rfl) fun w h => ?_
        refine st_in (b := e0) (xs := ecells x) (v := x.vv) h rfl ?_
        refine hk _ _ ⟨?_, ?_⟩
        · rw [List.length_append, hel]
          simp only [List.length_cons, List.length_nil]
          congr 2
          omega
        · rw [enB_lf, ← List.append_assoc, ← List.append_assoc, ← List.append_assoc]
          have h := h.perm (show _ = pts b3 (.cells [bv (lo8 x.e.v.length)].toArray 5 (0, 0)) * (rowB b (L ++ [lo8 x.e.k.length] ++ x.e.k ++ [lo8 x.e.v.length] ++ x.e.v) * (pts b2 (.cells [bv (lo8 x.e.k.length)].toArray 5 (0, 0)) * (pts e0 (.cells (ecells x).toArray 67 (0, 0)) * (pts n0 (.cells [Value.bool true, .slice (some ⟨b1, o1, none⟩) xs.length c].toArray 63 (0, 0)) * H)))) by ac_rfl)
          exact hA h.drop
    · clear h
      rintro σ w ⟨rfl, h⟩
      rw [pop_cons, fin_nil]
      try simp only [↓opsA, opsB, if_true, if_false, ↓reduceIte]
      rw [i64_of (by omega) (by omega)]
      refine hag (xs.length - (i + 1)) _ _ (by omega) ⟨i + 1, ?_, rfl, by omega, ?_⟩
      · rw [List.length_append, hL, enB_len, e1, Nat.add_assoc]; rfl
      · rw [e4, ← List.append_assoc, hLd]
        exact h
  · have : i = xs.length := by omega
    subst this
    have e1 : (esv xs).take xs.length = esv xs := List.take_of_length_le (by unfold esv; simp)
    rw [e1] at h ⊢
    rw [o_slice_hm (by omega) (by omega) (by omega)]
    refine k b w (pad_row ?_)
    have h := h.perm (show _ = pts n0 (.cells [Value.bool leaf, .slice a xs.length c].toArray 63 (0, 0)) * (rowB b (headB ⟨leaf, esv xs⟩ ++ (esv xs).flatMap (enB leaf)) * H) by ac_rfl)
    exact h.drop
end Go.Proofs.YtfaeklinhchidaaGreat

/-
  A page is read as a node.
-/
set_option linter.all false
set_option maxRecDepth 100000
namespace Go.Proofs.YtfaeklinhchidaaGreat
open Go Hold
variable {E : World0} {w : World} {H R X : HP} {K : Value → World → Prop}
theorem o_slice_lhm {P : Program} {t e n m : Nat} {z : Value} [i : SliceT P t e n m z] {a : Option Addr} {l c : Nat} {k k' k'' : IntKind} {x y u : Int} (h0 : 0 ≤ x) (h1 : x ≤ y) (h2 : y ≤ u) (h3 : u ≤ c) :
    pvv P (Instr.sliceAt t (.slice a l c) (some (.int k x)) (some (.int k' y)) (some (.int k'' u))) w K = K (.slice (cutA a u.toNat x.toNat n) (y.toNat - x.toNat) (u.toNat - x.toNat)) w := by
  obtain ⟨x, rfl⟩ := Int.eq_ofNat_of_zero_le h0
  obtain ⟨y, rfl⟩ := Int.eq_ofNat_of_zero_le (show 0 ≤ y by omega)
  obtain ⟨u, rfl⟩ := Int.eq_ofNat_of_zero_le (show 0 ≤ u by omega)
  have h1' : x ≤ y := by omega
  have h2' : y ≤ u := by omega
  have h3' : u ≤ c := by omega
  exact pvv_eq fun w => by
    simp [Instr.sliceAt, Instr.slice, Instr.sliceBounds, Instr.sliceBound, asIntOf, run_underlying' i.ul, run_sizeOf' i.size, h1', h2', h3', cutA]
theorem rds_cut3 {J : Hp} {a : Option Addr} {n c lo hi : Nat} {xs : List Value} (h : RdS J (.slice a n c) n xs) (hx : xs.length = n) (h1 : lo ≤ hi) (h2 : hi ≤ n) :
    RdS J (.slice (cutA a hi lo 1) (hi - lo) (hi - lo)) (hi - lo) ((xs.drop lo).take (hi - lo)) := by
  by_cases e : hi = lo
  · subst e
    exact ⟨_, _, rfl, Nat.le_refl _, .inl (by simp)⟩
  · obtain ⟨a1, c1, e1, hc, hw⟩ := h.cut hx h1 h2
    cases e1
    obtain ⟨a2, c2, e2, hc2, _⟩ := h
    cases e2
    refine ⟨_, _, rfl, Nat.le_refl _, ?_⟩
    have : cutA a hi lo 1 = cutA a c lo 1 := by
      unfold cutA; rw [if_neg e, if_neg (by omega)]
    rw [this]; exact hw
theorem text_spec (h : sat E w H) {a : Option Addr} {n c : Nat} {s rest : Bs} (hn : n = 1 + s.length + rest.length) (hv : Rds H (.slice a n c) n ((lo8 s.length :: (s ++ rest)).map bv)) (hs : s.length ≤ 255) (hr : rest.length ≤ 100000)
    (k : ∀ w', sat E w' H → K (.tuple #[.slice (cutA a (s.length + 1) 1 1) s.length s.length, .slice (cutA a c (s.length + 1) 1) rest.length (c - (s.length + 1)), .bool true]) w') :
    Calls prog 121 #[.slice a n c] w (Ret K) := by
  obtain ⟨a', c', e', hc, hv2, _⟩ := hv.shape h
  cases e'
  obtain ⟨b, o, ha, hcell⟩ := win_cell (hv.win h) (j := 0) (by simp)
  subst ha
  have hs8 : (lo8 s.length).toNat = s.length := by unfold lo8; rw [UInt8.toNat_ofNat']; omega
  have hcell : w.cell? ⟨b, o, none⟩ = some (.int .u8 s.length) := by
    simp only [Nat.add_zero, List.map_cons, List.getElem_cons_zero] at hcell
    rw [hcell]; unfold bv; rw [hs8]
  refine c121 ?_
  unfold B121
  have h0 : ¬ (n : Int) = 0 := by omega
  have h1 : ¬ (n : Int) ≤ (s.length : Int) := by omega
  simp only [h0, ↓opsA, opsB, if_true, if_false, ↓reduceIte]
  rw [o_index (by omega) (by omega)]
  simp only [↓opsA, opsB, if_true, if_false, ↓reduceIte, Int.toNat_zero, Nat.zero_mul, Nat.add_zero]
  refine ld_cell hcell ?_
  simp only [↓opsA, opsB, if_true, if_false, ↓reduceIte]
  rw [i64_of (n := (s.length : Int)) (by omega) (by omega)]
  simp only [h1, ↓opsA, opsB, if_true, if_false, ↓reduceIte]
  rw [o_index (by omega) (by omega)]
  simp only [↓opsA, opsB, if_true, if_false, ↓reduceIte, Int.toNat_zero, Nat.zero_mul, Nat.add_zero]
  refine ld_cell hcell ?_
  simp only [↓opsA, opsB, if_true, if_false, ↓reduceIte]
  rw [i64_of (n := (s.length : Int)) (by omega) (by omega)]
  rw [i64_of (n := (s.length : Int) + 1) (by omega) (by omega)]
  refine dr_sl h fun w h _ => ?_
  rw [o_slice_lhm (by omega) (by omega) (by omega) (by omega), o_slice_l (by omega) (by omega)]
  have e1 : ((s.length : Int) + 1).toNat = s.length + 1 := by omega
  rw [e1, show (1 : Int).toNat = 1 from rfl, Nat.add_sub_cancel, show n - (s.length + 1) = rest.length by omega]
  exact k w h
theorem text_rds {J : Hp} {a : Option Addr} {n c : Nat} {s rest : Bs} (hn : n = 1 + s.length + rest.length) (hv : RdS J (.slice a n c) n ((lo8 s.length :: (s ++ rest)).map bv)) :
    RdS J (.slice (cutA a (s.length + 1) 1 1) s.length s.length) s.length (s.map bv) ∧ RdS J (.slice (cutA a c (s.length + 1) 1) rest.length (c - (s.length + 1))) rest.length (rest.map bv) := by
  refine ⟨?_, ?_⟩
  · have := rds_cut3 hv (lo := 1) (hi := s.length + 1) (by simp; omega) (by omega) (by omega)
    simpa [Nat.add_sub_cancel] using this
  · have := hv.cutl (lo := s.length + 1) (by simp; omega) (by omega)
    rw [show n - (s.length + 1) = rest.length by omega] at this
    have e2 : ((lo8 s.length :: (s ++ rest)).map bv).drop (s.length + 1) = rest.map bv := by
      rw [List.map_cons, List.drop_succ_cons, List.map_append, List.drop_left' (by simp)]
    rw [e2] at this
    exact this
theorem hl8 {n : Nat} (h : n < 65536) : (hi8 n).toNat * 256 + (lo8 n).toNat = n := by
  unfold hi8 lo8; rw [UInt8.toNat_ofNat', UInt8.toNat_ofNat']; omega
theorem two16 {t : TypeId} {n : Nat} (hn : n < 65536) : pvv prog (binOp .or t (.int .i64 (((hi8 n).toNat * 256 : Nat) : Int)) (.int .i64 ((lo8 n).toNat : Int))) w K = K (.int .i64 n) w := by
  have := (hi8 n).toNat_lt
  have := (lo8 n).toNat_lt
  rw [o_or8 (by omega) (by omega), hl8 hn]
theorem shl16 {t : TypeId} {n : Nat} : pvv prog (binOp .shl t (.int .i64 ((hi8 n).toNat : Int)) (.int .u64 8)) w K = K (.int .i64 (((hi8 n).toNat * 256 : Nat) : Int)) w := by
  have := (hi8 n).toNat_lt
  rw [show (8 : Int) = ((8 : Nat) : Int) from rfl, o_shl (by decide), i64_of (by omega) (by omega)]
  congr 2
theorem parsed_spec {n : Nd} (h : sat E w H) {a : Option Addr} {c : Nat} (hv : Rds H (.slice a 256 c) 256 ((pad n.raw).map bv)) (ok : NdOk n)
    (k : ∀ lv xs w', esv xs = n.l → (∀ J, RdS J (.slice a 256 c) 256 ((pad n.raw).map bv) → ∀ x ∈ xs, evJ J x) → sat E w' (osl 67 3 lv xs.length (elv xs) * H) → K (.tuple #[nv n.leaf lv, .bool true]) w') :
    Calls prog 86 #[.slice a 256 c] w (Ret K) := by
  have hb := ok.b
  have hl2 := len_bytes n
  have hraw := raw_len n
  obtain ⟨a', c', e', hc, hv2, _⟩ := hv.shape h
  cases e'
  have hpl : (pad n.raw).length = 256 := pad_len (by omega)
  obtain ⟨b, o, ha, _⟩ := win_cell (hv.win h) (j := 0) (by rw [List.length_map, hpl]; omega)
  subst ha
  have hat : ∀ {w : World}, sat E w H → ∀ (j : Nat) (x : UInt8), (headB n)[j]? = some x → w.cell? ⟨b, o + j, none⟩ = some (bv x) := fun {w} h j x hj => by
    have hj3 := (List.getElem?_eq_some_iff.1 hj).1
    have hj3 : j < 3 := hj3
    refine hv.cell h (j := j) rfl ?_
    rw [List.getElem?_map]
    have : (pad n.raw)[j]? = some x := by
      unfold pad Nd.raw
      rw [List.append_assoc, List.getElem?_append_left (by simpa using hj3)]
      exact hj
    rw [this]; rfl
  refine c86 ?_
  unfold B86
  refine alloc_sl h fun n0 w h => ?_
  have h : sat E w (pts n0 (.cells [Value.bool false, .slice none 0 0].toArray 63 (0, 0)) * H) := h
  rw [o_index (by omega) (by omega)]
  simp only [↓opsA, opsB, if_true, if_false, ↓reduceIte, Int.toNat_zero, Nat.zero_mul, Nat.add_zero]
  refine ld_cell (v := bv (if n.leaf then 76 else 73)) (hat h.drop 0 _ rfl) ?_
  have hlf : (decide (((if n.leaf then (76 : UInt8) else 73).toNat : Int) = 76)) = n.leaf := by cases n.leaf <;> rfl
  unfold bv
  simp only [↓opsA, opsB, if_true, if_false, ↓reduceIte]
  rw [hlf]
  refine store_at (b := n0) h rfl (by simp) fun w h => ?_
  refine ld_in (b := n0) (v := .bool n.leaf) h rfl ?_
  simp only [↓opsA, opsB, if_true, if_false, ↓reduceIte]
  have hmid : ∀ {A B : World → Prop} {w : World}, sat E w (pts n0 (.cells [Value.bool n.leaf, .slice none 0 0].toArray 63 (0, 0)) * H) → B w → (
    gate (some (.bool !n.leaf, true)) (fun K => K (.slice (some ⟨b, o, none⟩) 256 c) w) w fun t_9 w =>
    gate (some (.bool !n.leaf, true)) (fun K => pvv prog (Instr.indexAt 22 t_9 (.int .i64 0)) w K) w fun t_10 w =>
    gate (some (.bool !n.leaf, true)) (fun K => ldv prog (Instr.loadAt 5 t_10) w K) w fun t_11 w =>
    gate (some (.bool !n.leaf, true)) (fun K => pvv prog (oEq .neq 5 (.tmp 17) (.const (.int .u8 73)) t_11 (.int .u8 73)) w K) w fun t_12 w =>
    cd (if (!n.leaf) = true then t_12 else .bool false) (A w) (B w)) := fun {A B w} h hB => by
    cases hlf2 : n.leaf
    · simp only [↓opsA, opsB, if_true, if_false, ↓reduceIte]
      rw [o_index (by omega) (by omega)]
      simp only [↓opsA, opsB, if_true, if_false, ↓reduceIte, Int.toNat_zero, Nat.zero_mul, Nat.add_zero]
      refine ld_cell (v := bv (if n.leaf then 76 else 73)) (hat h.drop 0 _ rfl) ?_
      rw [hlf2]
      unfold bv
      simp only [↓opsA, opsB, if_true, if_false, ↓reduceIte, show ((73 : UInt8).toNat : Int) = 73 from rfl]
      exact hB
    · simp only [↓opsA, opsB, if_true, if_false, ↓reduceIte]
      exact hB
  refine hmid h ?_
  rw [o_slice_l (by omega) (by omega)]
  refine dr_sl h fun w h _ => ?_
  rw [o_index (by omega) (by omega), o_index (by omega) (by omega)]
  simp only [↓opsA, opsB, if_true, if_false, ↓reduceIte, show (1 : Int).toNat * 1 = 1 from rfl, show (2 : Int).toNat * 1 = 2 from rfl, show (3 : Int).toNat = 3 from rfl]
  refine ld_cell (v := bv (hi8 n.l.length)) (hat h.drop 1 _ rfl) ?_
  have := (hi8 n.l.length).toNat_lt
  have := (lo8 n.l.length).toNat_lt
  unfold bv
  simp only [↓opsA, opsB, if_true, if_false, ↓reduceIte]
  rw [i64_of (n := ((hi8 n.l.length).toNat : Int)) (by omega) (by omega), shl16]
  refine ld_cell (v := bv (lo8 n.l.length)) (hat h.drop 2 _ rfl) ?_
  unfold bv
  simp only [↓opsA, opsB, if_true, if_false, ↓reduceIte]
  rw [i64_of (n := ((lo8 n.l.length).toNat : Int)) (by omega) (by omega), two16 (by omega)]
  let zs : Bs := List.replicate (256 - n.raw.length) 0
  refine lp_nat (fun q σ w => ∃ (i : Nat) (lv : Value) (xs : List Ev) (ra : Option Addr) (rc rn : Nat), σ = [.slice ra rn rc, .int .i64 i] ∧ q = n.l.length - i ∧ i ≤ n.l.length ∧
    rn = ((n.l.drop i).flatMap (enB n.leaf) ++ zs).length ∧ rn ≤ 256 ∧
    (∀ J, RdS J (.slice (some ⟨b, o, none⟩) 256 c) 256 ((pad n.raw).map bv) → RdS J (.slice ra rn rc) rn (((n.l.drop i).flatMap (enB n.leaf) ++ zs).map bv)) ∧ esv xs = n.l.take i ∧ (∀ J, RdS J (.slice (some ⟨b, o, none⟩) 256 c) 256 ((pad n.raw).map bv) → ∀ x ∈ xs, evJ J x) ∧
    sat E w (osl 67 3 lv i (elv xs) * (pts n0 (.cells [Value.bool n.leaf, lv].toArray 63 (0, 0)) * H))) n.l.length ⟨0, .slice none 0 0, [], _, _, 253, rfl, rfl, by omega, ?_, by omega, ?_, rfl, by simp, osl_nil h 67 3⟩ ?_
  · have e1 : (n.l.drop 0).flatMap (enB n.leaf) ++ zs = (pad n.raw).drop 3 := by
      rw [List.drop_zero]; unfold pad Nd.raw; rfl
    rw [e1, List.length_drop, hpl]
  · have e1 : (n.l.drop 0).flatMap (enB n.leaf) ++ zs = (pad n.raw).drop 3 := by
      rw [List.drop_zero]; unfold pad Nd.raw; rfl
    rw [e1, List.map_drop]
    exact fun J hJ => hJ.cutl (lo := 3) (by rw [List.length_map, hpl]) (by omega)
  clear h
  rintro q σ w again ⟨i, lv, xs, ra, rc, rn, rfl, rfl, hi, hrn, hr256, hrd, hxs, hev, h⟩ hag
  try simp only [↓opsA, opsB, if_true, if_false, ↓reduceIte]
  refine cd_dec (fun hlt => ?_) (fun hge => ?_)
  · have hlt : i < n.l.length := by omega
    refine alloc_sl h fun e0 w h => ?_
    have h : sat E w (pts e0 (.cells [Value.slice none 0 0, .slice none 0 0, .int .i64 0].toArray 67 (0, 0)) * (osl 67 3 lv i (elv xs) * (pts n0 (.cells [Value.bool n.leaf, lv].toArray 63 (0, 0)) * H))) := h
    have eo := ok.e n.l[i] (List.getElem_mem hlt)
    have hT : (n.l.drop i).flatMap (enB n.leaf) ++ zs = enB n.leaf n.l[i] ++ ((n.l.drop (i + 1)).flatMap (enB n.leaf) ++ zs) := by
      rw [List.drop_eq_getElem_cons hlt, List.flatMap_cons, List.append_assoc]
    generalize hTT : (n.l.drop (i + 1)).flatMap (enB n.leaf) ++ zs = T at hT
    have htk : n.l.take (i + 1) = n.l.take i ++ [n.l[i]] := List.take_succ_eq_append_getElem hlt
    generalize n.l[i] = e at eo hT htk
    rw [hT] at hrd hrn
    have hxl : xs.length = i := by
      have := congrArg List.length hxs
      rw [esv, List.length_map, List.length_take] at this; omega
    have hge : 1 + e.k.length + T.length ≤ rn := by rw [hrn, List.length_append]; cases n.leaf <;> simp [enB] <;> omega
    have hspl : ∃ D, enB n.leaf e ++ T = lo8 e.k.length :: (e.k ++ D) ∧ D = (if n.leaf then lo8 e.v.length :: e.v else [hi8 e.pg, lo8 e.pg]) ++ T := ⟨_, by unfold enB; simp, rfl⟩
    obtain ⟨D, hD1, hD2⟩ := hspl
    rw [hD1] at hrd
    have hrn2 : rn = 1 + e.k.length + D.length := by rw [hrn, hD1]; simp only [List.length_cons, List.length_append]; omega
    have hk1 := fun J hJ => (text_rds hrn2 (hrd J hJ)).1
    have hk2 := fun J hJ => (text_rds hrn2 (hrd J hJ)).2
    have hrdH : Rds H (.slice ra rn rc) rn ((lo8 e.k.length :: (e.k ++ D)).map bv) := fun E w hs => hrd _ (hv E w hs)
    refine text_spec h hrn2 hrdH.right.right.right eo.k (by omega) fun w h => ?_
    generalize cutA ra (e.k.length + 1) 1 1 = a1 at hk1 ⊢
    generalize cutA ra rc (e.k.length + 1) 1 = a2 at hk2 ⊢
    generalize rc - (e.k.length + 1) = c2 at hk2 ⊢
    simp only [↓opsA, opsB, if_true, if_false, ↓reduceIte]
    refine store_at (b := e0) h rfl (by simp) fun w h => ?_
    refine jn_cut (fun σ w => ∃ (x : Ev) (ra : Option Addr) (rc : Nat), σ = [.slice ra T.length rc] ∧ (∀ J, RdS J (.slice (some ⟨b, o, none⟩) 256 c) 256 ((pad n.raw).map bv) → RdS J (.slice ra T.length rc) T.length (T.map bv) ∧ evJ J x) ∧ x.e = e ∧
      sat E w (pts e0 (.cells (ecells x).toArray 67 (0, 0)) * (osl 67 3 lv i (elv xs) * (pts n0 (.cells [Value.bool n.leaf, lv].toArray 63 (0, 0)) * H)))) ?_ ?_
    · intro kk hk
      clear hag
      try simp only [↓opsA, opsB, if_true, if_false, ↓reduceIte]
      refine ld_in (b := n0) (v := .bool n.leaf) h rfl ?_
      refine cd_split (fun hb => ?_) (fun hb => ?_)
      · rw [if_pos hb] at hD2
        have hD3 : D = lo8 e.v.length :: (e.v ++ T) := hD2
        have hk2 : ∀ J, RdS J (.slice (some ⟨b, o, none⟩) 256 c) 256 ((pad n.raw).map bv) → RdS J (.slice a2 D.length c2) D.length ((lo8 e.v.length :: (e.v ++ T)).map bv) := fun J hJ => by have := hk2 J hJ; rw [← hD3]; exact this
        have hdl : D.length = 1 + e.v.length + T.length := by rw [hD3]; simp; omega
        have hk3 := fun J hJ => text_rds hdl (hk2 J hJ)
        have hk2H : Rds H (.slice a2 D.length c2) D.length ((lo8 e.v.length :: (e.v ++ T)).map bv) := fun E w hs => by have := hk2 _ (hv E w hs); rw [← hD3] at this ⊢; exact this
        refine text_spec h hdl hk2H.right.right.right eo.v (by omega) fun w h => ?_
        simp only [↓opsA, opsB, if_true, if_false, ↓reduceIte]
        refine store_at (b := e0) h rfl (by simp) fun w h => ?_
        try simp only [↓opsA, opsB, if_true, if_false, ↓reduceIte]
        have hp0 := eo.j hb
        refine hk _ _ ⟨⟨a1, e.k.length, _, e.v.length, e⟩, _, _, rfl, fun J hJ => ⟨(hk3 J hJ).2, hk1 J hJ, (hk3 J hJ).1⟩, rfl, ?_⟩
        unfold ecells Ev.kv Ev.vv
        rw [hp0]
        exact h
      · rw [if_neg (by simp [hb])] at hD2
        have hD3 : D = hi8 e.pg :: lo8 e.pg :: T := hD2
        have hdl : D.length = T.length + 2 := by rw [hD3]; simp
        have hv0 := eo.i hb
        have hpg := eo.p
        have hk2H : Rds H (.slice a2 D.length c2) D.length (D.map bv) := fun E w hs => hk2 _ (hv E w hs)
        obtain ⟨b2, o2, hab, _⟩ := win_cell (hk2H.win h.drop.drop.drop) (j := 0) (by rw [List.length_map]; omega)
        subst hab
        have hcut := (fun (J : Hp) (hJ : RdS J (.slice (some ⟨b, o, none⟩) 256 c) 256 ((pad n.raw).map bv)) => (hk2 J hJ).cutl (lo := 2) (by simp) (by omega))
        have hlt2 : ¬ (D.length : Int) < 2 := by omega
        simp only [hlt2, ↓opsA, opsB, if_true, if_false, ↓reduceIte]
        refine dr_sl h fun w h _ => ?_
        rw [o_index (by omega) (by omega)]
        try simp only [↓opsA, opsB, if_true, if_false, ↓reduceIte]
        rw [o_index (by omega) (by omega)]
        simp only [↓opsA, opsB, if_true, if_false, ↓reduceIte, show (1 : Int).toNat * 1 = 1 from rfl, Int.toNat_zero, Nat.zero_mul, Nat.add_zero]
        refine ld_cell (v := bv (hi8 e.pg)) (hk2H.cell h.drop.drop.drop (j := 0) rfl (by rw [hD3]; rfl)) ?_
        have := (hi8 e.pg).toNat_lt
        have := (lo8 e.pg).toNat_lt
        unfold bv
        simp only [↓opsA, opsB, if_true, if_false, ↓reduceIte]
        rw [i64_of (n := ((hi8 e.pg).toNat : Int)) (by omega) (by omega), shl16]
        refine ld_cell (v := bv (lo8 e.pg)) (hk2H.cell h.drop.drop.drop (j := 1) rfl (by rw [hD3]; rfl)) ?_
        unfold bv
        simp only [↓opsA, opsB, if_true, if_false, ↓reduceIte]
        rw [i64_of (n := ((lo8 e.pg).toNat : Int)) (by omega) (by omega), two16 (by omega)]
        refine store_at (b := e0) h rfl (by simp) fun w h => ?_
        rw [o_slice_l (by omega) (by omega)]
        rw [show (2 : Int).toNat = 2 from rfl, show D.length - 2 = T.length by omega]
        refine hk _ _ ⟨⟨a1, e.k.length, none, 0, e⟩, _, _, rfl, fun J hJ => ⟨?_, hk1 J hJ, ?_⟩, rfl, ?_⟩
        · have h2 := hcut J hJ
          rw [show D.length - 2 = T.length by omega] at h2
          have e2 : (D.map bv).drop 2 = T.map bv := by rw [hD3]; rfl
          rw [e2] at h2
          exact h2
        · show RdS _ (.slice none e.v.length 0) e.v.length (e.v.map bv)
          rw [hv0]
          exact ⟨none, 0, rfl, Nat.le_refl _, .inl rfl⟩
        · unfold ecells Ev.kv Ev.vv
          rw [hv0]
          exact h
    · clear h
      rintro σ w ⟨x, ra2, rc2, rfl, hT2, hx2, h⟩
      rw [pop_cons, fin_nil]
      try simp only [↓opsA, opsB, if_true, if_false, ↓reduceIte]
      obtain ⟨al, cl, rfl, _, _, _⟩ := osl_shape h.drop
      refine ld_in (b := n0) (v := .slice al i cl) h rfl ?_
      refine ld_agg (b := e0) h rfl ?_
      refine buildSlice_sl (e := 67) (cs := (ecells x).toArray) h (fun w => by kernel_rfl) fun b3 w h => ?_
      have h := h.owns (.slice al i cl)
      refine append_sl h (ecells x) rfl (.inr ⟨b3, 0, _, 67, (0, 0), rfl, h.drop.pts_get, fun j u hj => by simpa using hj⟩) (by simp [ecells, Ev.kv, Ev.vv, Value.oneCell']) (by omega) (by omega) fun lv2 w h => ?_
      try simp only [↓opsA, opsB, if_true, if_false, ↓reduceIte]
      obtain ⟨al2, cl2, rfl, _, _, _⟩ := osl_shape h
      refine store_at (b := n0) h rfl (by simp) fun w h => ?_
      rw [i64_of (by omega) (by omega)]
      refine hag (n.l.length - (i + 1)) _ _ (by omega) ⟨i + 1, .slice al2 (i + 1) cl2, xs ++ [x], ra2, rc2, T.length, rfl, rfl, by omega, by rw [hTT], by omega, by rw [hTT]; exact fun J hJ => (hT2 J hJ).1, ?_, ?_, ?_⟩
      · rw [esv, List.map_append, htk, ← hxs, List.map_cons, List.map_nil, hx2]; rfl
      · intro J hJ y hy
        rcases List.mem_append.1 hy with hy | hy
        · exact hev J hJ y hy
        · simp at hy; rw [hy]; exact (hT2 J hJ).2
      · have h := h.perm (show _ = pts b3 (.cells (ecells x).toArray 67 (0, 0)) * (pts e0 (.cells (ecells x).toArray 67 (0, 0)) * (osl 67 3 (.slice al2 (i + 1) cl2) (i + 1) (elv xs ++ ecells x) * (pts n0 (.cells [Value.bool n.leaf, .slice al2 (i + 1) cl2].toArray 63 (0, 0)) * H))) by ac_rfl)
        rw [elv_app, show elv [x] = ecells x from by simp [elv]]
        exact h.drop.drop
  · have : i = n.l.length := by omega
    subst this
    rw [List.take_length] at hxs
    have hxl : xs.length = n.l.length := by rw [← hxs]; simp [esv]
    refine ld_agg (b := n0) h rfl ?_
    have h := h.own n0
    obtain ⟨al, cl, rfl, _, _, _⟩ := osl_shape h.drop
    refine res_all (b := n0) h rfl rfl (by simp [Value.oneCell']) fun w h => ?_
    have h := h.drop
    rw [← hxl] at h
    rw [← hxl]
    exact k _ xs w hxs hev h
end Go.Proofs.YtfaeklinhchidaaGreat

/-
  A change that is being done: what it holds; a page is read, is taken, is given back.
-/
set_option linter.all false
set_option maxRecDepth 100000
namespace Go.Proofs.YtfaeklinhchidaaGreat
open Go Hold
variable {E : World0} {w : World} {H R X : HP} {K : Value → World → Prop}
/-- What a change has written, over what there was. -/
structure MapOk (N : Nat) (ct cc : Nat → PgC) (wn : Nat) (D : List (Int × Bs)) : Prop where
  nd : (D.map (·.1)).Nodup
  mem : ∀ x ∈ D, (0 ≤ x.1 ∧ x.1 < N) ∧ ∃ y : PgC, y.Ok ∧ x.2 = y.bytes
  len : D.length ≤ wn
  look : ∀ p, p < N → (lookB D p).getD (ct p).bytes = (cc p).bytes
  ok : ∀ p, p < N → (cc p).Ok
theorem MapOk.put {N : Nat} {ct cc : Nat → PgC} {wn : Nat} {D : List (Int × Bs)} (h : MapOk N ct cc wn D) {p : Nat} (hp : p < N) {y : PgC} (hy : y.Ok) : MapOk N ct (upd cc p y) (wn + 1) (putB D p y.bytes) := by
  refine ⟨putB_nodup h.nd, fun x hx => ?_, ?_, fun q hq => ?_, fun q hq => ?_⟩
  · rcases putB_mem hx with rfl | hx
    · exact ⟨⟨by omega, by show (p : Int) < N; omega⟩, y, hy, rfl⟩
    · exact h.mem x hx
  · have := h.len
    rw [putB_len]; split <;> omega
  · rw [lookB_put]
    unfold upd
    by_cases e : q = p
    · subst e; rw [if_pos rfl, if_pos rfl]; rfl
    · rw [if_neg (by omega), if_neg e]; exact h.look q hq
  · unfold upd
    by_cases e : q = p
    · rw [if_pos e]; exact hy
    · rw [if_neg e]; exact h.ok q hq
def chM (mo : Option Nat) (N : Nat) (ct cc : Nat → PgC) (wn : Nat) : HP := match mo with
  | none => pur (MapOk N ct cc wn [])
  | some m => ex fun q : List (Int × Value) × List (Int × Bs) => pur (MapOk N ct cc wn q.2) * (omap m q.1 * pers (immM q.1 q.2))
/-- Where a change stands. -/
structure Cx where
  cb : Nat
  tb : Nat
  mo : Option Nat
  A : Ad
  N : Nat
  ct : Nat → PgC
  hd : Nat × Nat × Nat
  kk : Nat
  le : N ≤ 1000
def ccells (C : Cx) (s : St) : List Value := [.int .i64 s.root, .int .i64 s.free, .int .i64 s.fresh, .pointer (some ⟨C.tb, 0, none⟩), .map C.mo]
def tcells (C : Cx) : List Value := [.int .i64 C.hd.1, .int .i64 C.hd.2.1, .int .i64 C.hd.2.2, .pointer (some ⟨C.A.q, 0, none⟩)]
def chg (C : Cx) (c : Nat) (s : St) : HP := pts C.cb (.cells (ccells C s).toArray 124 (0, 0)) * (pts C.tb (.cells (tcells C).toArray 73 (0, 0)) * (chM C.mo C.N C.ct s.cc s.w * pX C.A C.N C.ct 0 C.kk c))
theorem sat_chg {C : Cx} {c : Nat} {s : St} : sat E w (chg C c s * R) ↔ sat E w (pts C.cb (.cells (ccells C s).toArray 124 (0, 0)) * (pts C.tb (.cells (tcells C).toArray 73 (0, 0)) * (chM C.mo C.N C.ct s.cc s.w * (pX C.A C.N C.ct 0 C.kk c * R)))) := by
  unfold chg; simp only [star_assoc]
theorem look_nilmap {P : Program} {t kt vt : Nat} {k : Int} {z : Value} [i : Ul P t (.map kt vt)] [j : Ul P kt (.int .i64)] [q : ZeroC P vt z]
    (kk : K (.tuple #[z, .bool false]) w) : ldv P (Instr.lookup t (.map none) (.int .i64 k) true) w K := by
  refine ldv_of ?_ kk
  have hf := run_findKey (P := P) (w := w) j.ul (k := k) (l := []) (ns := []) rfl
  simp [ents, findM] at hf
  simp [Instr.lookup, run_underlying' i.ul, run_checkKey j.ul, run_zero q, hf]
theorem look_ok {N : Nat} {ct cc : Nat → PgC} {wn : Nat} {D : List (Int × Bs)} (h : MapOk N ct cc wn D) {p : Nat} (hp : p < N) : (lookB D p = none → (ct p).bytes = (cc p).bytes) ∧ (∀ b, lookB D p = some b → b = (cc p).bytes) := by
  have := h.look p hp
  refine ⟨fun e => ?_, fun b e => ?_⟩ <;> rw [e] at this <;> exact this
theorem sat_chM {m N : Nat} {ct cc : Nat → PgC} {wn : Nat} : sat E w (chM (some m) N ct cc wn * R) ↔ ∃ ds D, MapOk N ct cc wn D ∧ sat E w (omap m ds * (pers (immM ds D) * R)) := by
  unfold chM
  simp only
  rw [sat_ex_star]
  constructor
  · rintro ⟨⟨ds, D⟩, h⟩
    simp only [star_assoc] at h
    rw [sat_pur_star] at h
    exact ⟨ds, D, h.1, h.2⟩
  · rintro ⟨ds, D, h1, h2⟩
    refine ⟨(ds, D), ?_⟩
    simp only [star_assoc]
    rw [sat_pur_star]
    exact ⟨h1, h2⟩
theorem sat_chM0 {N : Nat} {ct cc : Nat → PgC} {wn : Nat} : sat E w (chM none N ct cc wn * R) ↔ MapOk N ct cc wn [] ∧ sat E w R := by
  unfold chM
  simp only
  rw [sat_pur_star]
/-- What a lookup in a change's pages finds. -/
theorem chM_look {mo : Option Nat} {N : Nat} {ct cc : Nat → PgC} {wn p : Nat} (hpN : p < N) (h : sat E w (chM mo N ct cc wn * R))
    (k0 : (ct p).bytes = (cc p).bytes → K (.tuple #[.slice none 0 0, .bool false]) w)
    (k1 : ∀ a c, sat E w (pers (immS (.slice a 256 c) 256 ((cc p).bytes.map bv)) * (chM mo N ct cc wn * R)) → K (.tuple #[.slice a 256 c, .bool true]) w) :
    ldv prog (Instr.lookup 117 (.map mo) (.int .i64 p) true) w K := by
  cases mo with
  | none => exact look_nilmap (k0 ((look_ok (sat_chM0.1 h).1 hpN).1 rfl))
  | some m =>
    obtain ⟨ds, D, ok, h⟩ := sat_chM.1 h
    have hrel : relM (hp w) ds D := (h.split (pers (immM ds D))).pers_get
    refine look_d (b := m) h ?_
    rcases hrel.look (k := (p : Int)) with ⟨h1, h2⟩ | ⟨v, b, h1, h2, h3⟩
    · rw [h1]
      exact k0 ((look_ok ok hpN).1 h2)
    · rw [h1]
      have hb := (look_ok ok hpN).2 b h2
      have hlen : b.length = 256 := by rw [hb]; exact PgC.len (ok.ok p hpN)
      obtain ⟨a, c, rfl, _, _⟩ := h3
      rw [hlen] at h1 ⊢
      refine k1 a c ?_
      have h := h.perm (show _ = pers (immM ds D) * (omap m ds * R) by ac_rfl)
      have h := h.pers_new (ψ := immS (.slice a 256 c) 256 ((cc p).bytes.map bv)) fun I hI => by
        rcases relM.look (k := (p : Int)) hI with ⟨g1, g2⟩ | ⟨v', b', g1, g2, g3⟩
        · rw [h1] at g1; cases g1
        · rw [h1] at g1; cases g1
          rw [h2] at g2; cases g2
          rw [hlen, hb] at g3
          exact g3
      have h3 : sat E w (chM (some m) N ct cc wn * (pers (immS (.slice a 256 c) 256 ((cc p).bytes.map bv)) * R)) := sat_chM.2 ⟨ds, D, ok, h.perm (by ac_rfl)⟩
      exact h3.perm (star_left_comm _ _ _)
theorem chM_ok {mo : Option Nat} {N : Nat} {ct cc : Nat → PgC} {wn : Nat} (h : sat E w (chM mo N ct cc wn * R)) {p : Nat} (hpN : p < N) : (cc p).Ok := by
  cases mo with
  | none => exact (sat_chM0.1 h).1.ok p hpN
  | some m => obtain ⟨ds, D, ok, h⟩ := sat_chM.1 h; exact ok.ok p hpN
theorem chg_ok {C : Cx} {c : Nat} {s : St} (h : sat E w (chg C c s * R)) {p : Nat} (hpN : p < C.N) : (s.cc p).Ok := chM_ok (sat_chg.1 h).drop.drop hpN
theorem chg_le {C : Cx} {c c' : Nat} {s : St} (h : sat E w (chg C c s * R)) (hc : c' ≤ c) : sat E w (chg C c' s * R) := by
  have h := (sat_chg.1 h).perm (show _ = pX C.A C.N C.ct 0 C.kk c * (pts C.cb (.cells (ccells C s).toArray 124 (0, 0)) * (pts C.tb (.cells (tcells C).toArray 73 (0, 0)) * (chM C.mo C.N C.ct s.cc s.w * R))) by ac_rfl)
  have h := pX_le h (Nat.le_refl _) (Nat.le_refl _) hc
  exact sat_chg.2 (h.perm (by ac_rfl))
/-- The bytes of a page: out of what was written, or out of the cache. -/
theorem bytes_of {C : Cx} {c : Nat} {s : St} {p : Nat} (hpN : p < C.N) {T : Value → World → Prop} (h : sat E w (chg C (c + 1) s * R))
    (k : ∀ a c2 w', sat E w' (pers (immS (.slice a 256 c2) 256 ((s.cc p).bytes.map bv)) * (chg C c s * R)) → T (.slice a 256 c2) w') :
    ldv prog (Instr.lookup 117 (.map C.mo) (.int .i64 p) true) w fun t_4 w =>
    pvv prog (Instr.extract t_4 0) w fun t_5 w =>
    pvv prog (Instr.extract t_4 1) w fun t_6 w =>
    jn (fun σ w => pop σ fun b_7 σ => fin σ <| T b_7 w) fun k_21 =>
    pvv prog (Op.unary .not t_6) w fun t_22 w =>
    cd t_22 (
      pv prog (oNil (.pointer (some ⟨C.cb, 0, none⟩))) w fun t_23 w =>
      pvv prog (Instr.fieldAt 124 t_23 1) w fun t_24 w =>
      ldv prog (Instr.loadAt 23 t_24) w fun t_25 w =>
      pv prog (oNil t_25) w fun t_26 w =>
      pvv prog (Instr.fieldAt 73 t_26 1) w fun t_27 w =>
      ldv prog (Instr.loadAt 55 t_27) w fun t_28 w =>
      Calls prog 26 #[t_28, .int .i64 p] w (Ret fun t_29 w =>
      pvv prog (Instr.extract t_29 0) w fun t_30 w =>
      pvv prog (Instr.extract t_29 1) w fun t_31 w =>
      k_21 [t_30] w)) <|
    k_21 [t_5] w := by
  have h0 := (sat_chg.1 h).perm (show _ = chM C.mo C.N C.ct s.cc s.w * (pts C.cb (.cells (ccells C s).toArray 124 (0, 0)) * (pts C.tb (.cells (tcells C).toArray 73 (0, 0)) * (pX C.A C.N C.ct 0 C.kk (c + 1) * R))) by ac_rfl)
  refine chM_look hpN h0 (fun hb => ?_) (fun a c2 h => ?_)
  · simp only [↓opsA, opsB, if_true, if_false, ↓reduceIte]
    refine jn_cut (fun σ w => ∃ a c2, σ = [.slice a 256 c2] ∧ sat E w (pers (immS (.slice a 256 c2) 256 ((s.cc p).bytes.map bv)) * (chg C c s * R))) ?_ ?_
    · intro kk hk
      try simp only [↓opsA, opsB, if_true, if_false, ↓reduceIte]
      refine ld_in (b := C.cb) (v := .pointer (some ⟨C.tb, 0, none⟩)) h0 rfl ?_
      try simp only [↓opsA, opsB, if_true, if_false, ↓reduceIte]
      refine ld_in (b := C.tb) (v := .pointer (some ⟨C.A.q, 0, none⟩)) h0 rfl ?_
      have h := h0.perm (show _ = pX C.A C.N C.ct 0 C.kk (c + 1) * (pts C.cb (.cells (ccells C s).toArray 124 (0, 0)) * (pts C.tb (.cells (tcells C).toArray 73 (0, 0)) * (chM C.mo C.N C.ct s.cc s.w * R))) by ac_rfl)
      refine XRead_spec h hpN fun v w h => ?_
      obtain ⟨a, c2, rfl, _, _, _⟩ := osl_shape h
      simp only [↓opsA, opsB, if_true, if_false, ↓reduceIte]
      have h := osl_freeze h
      rw [hb] at h
      refine hk _ _ ⟨a, c2, rfl, ?_⟩
      have h2 : sat E w (chg C c s * (pers (immS (.slice a 256 c2) 256 ((s.cc p).bytes.map bv)) * R)) := sat_chg.2 (h.perm (by ac_rfl))
      exact h2.perm (star_left_comm _ _ _)
    · rintro σ w ⟨a, c2, rfl, h⟩
      rw [pop_cons, fin_nil]
      exact k a c2 w h
  · simp only [↓opsA, opsB, if_true, if_false, ↓reduceIte]
    refine jn_cut (fun σ w => ∃ a c2, σ = [.slice a 256 c2] ∧ sat E w (pers (immS (.slice a 256 c2) 256 ((s.cc p).bytes.map bv)) * (chg C c s * R))) ?_ ?_
    · intro kk hk
      try simp only [↓opsA, opsB, if_true, if_false, ↓reduceIte]
      refine hk _ _ ⟨a, c2, rfl, ?_⟩
      have h2 : sat E w (chg C (c + 1) s * (pers (immS (.slice a 256 c2) 256 ((s.cc p).bytes.map bv)) * R)) := sat_chg.2 (h.perm (by ac_rfl))
      exact (chg_le h2 (Nat.le_succ c)).perm (star_left_comm _ _ _)
    · rintro σ w ⟨a, c2, rfl, h⟩
      rw [pop_cons, fin_nil]
      exact k a c2 w h
theorem readS_some {N : Nat} {s : St} {p : Nat} {n : Nd} (h : readS N s p = some n) : p < N ∧ s.cc p = .node n := by
  unfold readS at h
  split at h
  · rename_i hpN
    refine ⟨hpN, ?_⟩
    split at h
    · rename_i n' e
      cases h; exact e
    · cases h
  · cases h
theorem read_spec {C : Cx} {c : Nat} {s : St} {p : Nat} {n : Nd} (hr : readS C.N s p = some n) (h : sat E w (chg C (c + 1) s * R))
    (k : ∀ lv xs w', esv xs = n.l → NdOk n → sat E w' (osl 67 3 lv xs.length (elv xs) * (pers (evP xs) * (chg C c s * R))) → K (nv n.leaf lv) w') :
    Calls prog 52 #[.pointer (some ⟨C.cb, 0, none⟩), .int .i64 p] w (Ret K) := by
  obtain ⟨hpN, hcc⟩ := readS_some hr
  have ok : NdOk n := by have := chg_ok h hpN; rw [hcc] at this; exact this
  refine c52 ?_
  unfold B52
  refine alloc_sl h fun t0 w h => ?_
  have h : sat E w (chg C (c + 1) s * (pts t0 (.cells [Value.bool false, .slice none 0 0].toArray 63 (0, 0)) * R)) := h.perm (star_left_comm _ _ _)
  rw [o_nil, o_field]
  refine ld_in (b := C.cb) (v := .map C.mo) (sat_chg.1 h) rfl ?_
  refine bytes_of hpN h fun a c2 w h => ?_
  rw [hcc] at h
  have hrd : Rds (pers (immS (.slice a 256 c2) 256 ((PgC.node n).bytes.map bv)) * (chg C c s * (pts t0 (.cells [Value.bool false, .slice none 0 0].toArray 63 (0, 0)) * R))) (.slice a 256 c2) 256 ((pad n.raw).map bv) := Rds.pers.left
  refine parsed_spec h hrd ok fun lv xs w hxs hev h => ?_
  obtain ⟨al, cl, rfl, _, _, _⟩ := osl_shape h
  have hxl : xs.length = n.l.length := by rw [← hxs]; simp [esv]
  simp only [nv, ↓opsA, opsB, if_true, if_false, ↓reduceIte]
  refine alloc_sl h fun n1 w h => ?_
  have h : sat E w (pts n1 (.cells [Value.bool false, .slice none 0 0].toArray 63 (0, 0)) * _) := h
  refine store_all (b := n1) h (vs := [Value.bool n.leaf, .slice al xs.length cl]) rfl rfl (by simp [Value.oneCell']) fun w h => ?_
  unfold jn
  simp only [↓opsA, opsB, if_true, if_false, ↓reduceIte]
  refine ld_agg (b := n1) h rfl ?_
  have h := h.drop
  have h := h.own t0
  refine res_all (b := t0) h (vs := [Value.bool n.leaf, .slice al xs.length cl]) rfl rfl (by simp [Value.oneCell']) fun w h => ?_
  have h := h.drop
  refine k _ xs w hxs ok ?_
  have h := h.perm (show _ = pers (immS (.slice a 256 c2) 256 ((PgC.node n).bytes.map bv)) * (osl 67 3 (.slice al xs.length cl) xs.length (elv xs) * (chg C c s * R)) by ac_rfl)
  have h := h.pers_mono (ψ := evP xs) fun I hI => hev I hI
  exact h.perm (star_left_comm _ _ _)
end Go.Proofs.YtfaeklinhchidaaGreat
