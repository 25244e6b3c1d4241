/-
  The cache as it is held; New, look, drop.
-/
import Derived.Test.YtcjklbhobmkalaaPgrP
import Derived.Test.YtcjklbhobmkalaaTests
import Derived.Test.YtcjklbhobmkalaaElems
import Derived.Test.YtcjklbhobmkalaaWalA
import Derived.Test.YtcjklbhobmkalaaWalT
set_option linter.all false
set_option maxRecDepth 100000
namespace Go.Proofs.Ytcjklbhobmkalaa
open Go Hold
variable {E : World0} {w : World} {H R X : HP} {K : Value → World → Prop}
/-! ### Maps whose values are bytes -/
def relM (I : Hp) : List (Int × Value) → List (Int × Bs) → Prop
  | [], [] => True
  | q :: ds, x :: D => (q.1 = x.1 ∧ RdS I q.2 x.2.length (x.2.map bv)) ∧ relM I ds D
  | _, _ => False
theorem relM.mono {I J : Hp} (hI : ∀ b o, I b = some o → J b = some o) : ∀ {ds : List (Int × Value)} {D : List (Int × Bs)}, relM I ds D → relM J ds D
  | [], [], _ => trivial
  | q :: ds, x :: D, h => ⟨⟨h.1.1, h.1.2.mono hI⟩, relM.mono hI h.2⟩
  | [], x :: D, h => h.elim
  | q :: ds, [], h => h.elim
def immM (ds : List (Int × Value)) (D : List (Int × Bs)) : PP := ⟨fun I => relM I ds D, fun hI h => h.mono hI⟩
theorem relM.keys {I : Hp} : ∀ {ds : List (Int × Value)} {D : List (Int × Bs)}, relM I ds D → ds.map (·.1) = D.map (·.1)
  | [], [], _ => rfl
  | q :: ds, x :: D, h => by rw [List.map_cons, List.map_cons, h.1.1, relM.keys h.2]
  | [], x :: D, h => h.elim
  | q :: ds, [], h => h.elim
theorem relM.len {I : Hp} {ds : List (Int × Value)} {D : List (Int × Bs)} (h : relM I ds D) : ds.length = D.length := by
  have := congrArg List.length h.keys; simpa using this
theorem relM.put {I : Hp} {k : Int} {v : Value} {b : Bs} (hv : RdS I v b.length (b.map bv)) : ∀ {ds : List (Int × Value)} {D : List (Int × Bs)}, relM I ds D → relM I (putM ds k v) (putB D k b)
  | [], [], _ => ⟨⟨rfl, hv⟩, trivial⟩
  | q :: ds, x :: D, h => by
    unfold putM putB
    rw [h.1.1]
    split
    · exact ⟨⟨rfl, hv⟩, h.2⟩
    · exact ⟨h.1, relM.put hv h.2⟩
  | [], x :: D, h => h.elim
  | q :: ds, [], h => h.elim
theorem relM.del {I : Hp} {k : Int} : ∀ {ds : List (Int × Value)} {D : List (Int × Bs)}, relM I ds D → relM I (delM ds k) (delB D k)
  | [], [], _ => trivial
  | q :: ds, x :: D, h => by
    unfold delM delB
    rw [h.1.1]
    split
    · exact h.2
    · exact ⟨h.1, relM.del h.2⟩
  | [], x :: D, h => h.elim
  | q :: ds, [], h => h.elim
theorem relM.look {I : Hp} {k : Int} : ∀ {ds : List (Int × Value)} {D : List (Int × Bs)}, relM I ds D → (lookM ds k = none ∧ lookB D k = none) ∨ ∃ v b, lookM ds k = some v ∧ lookB D k = some b ∧ RdS I v b.length (b.map bv)
  | [], [], _ => .inl ⟨rfl, rfl⟩
  | q :: ds, x :: D, h => by
    have ih := relM.look (k := k) h.2
    unfold lookM at ih ⊢
    simp only [findM, lookB, h.1.1]
    by_cases e : k = x.1
    · rw [if_pos e, if_pos e]
      exact .inr ⟨q.2, x.2, rfl, rfl, h.1.2⟩
    · rw [if_neg e, if_neg e, Option.map_map]
      exact ih
  | [], x :: D, h => h.elim
  | q :: ds, [], h => h.elim
theorem relM.mem {I : Hp} : ∀ {ds : List (Int × Value)} {D : List (Int × Bs)}, relM I ds D → ∀ q ∈ ds, ∃ b, (q.1, b) ∈ D ∧ RdS I q.2 b.length (b.map bv)
  | [], [], _, q, hq => by simp at hq
  | y :: ds, x :: D, h, q, hq => by
    rcases List.mem_cons.1 hq with rfl | hq
    · exact ⟨x.2, by rw [h.1.1]; simp, h.1.2⟩
    · obtain ⟨b, hb, hr⟩ := relM.mem h.2 q hq
      exact ⟨b, List.mem_cons_of_mem _ hb, hr⟩
  | [], x :: D, h, _, _ => h.elim
  | q :: ds, [], h, _, _ => h.elim
theorem look_d (h : sat E w H) {t kt vt b : Nat} {l : List (Int × Value)} {k : Int} {z : Value} [i : Ul prog t (.map kt vt)] [j : Ul prog kt (.int .i64)] [q : ZeroC prog vt z] [s : OwnM H b l R]
    (kk : K (.tuple #[(lookM l k).getD z, .bool (lookM l k).isSome]) w) : ldv prog (Instr.lookup t (.map (some b)) (.int .i64 k) true) w K := by
  refine look_ld h ?_
  cases e : lookM l k with
  | none => rw [e] at kk; exact kk
  | some v => rw [e] at kk; exact kk
def pinsM (l : List Int) : List (Int × Value) := l.map fun n => (n, .bool true)
theorem pinsM_del {n : Int} : ∀ {l : List Int}, l.Nodup → delM (pinsM l) n = pinsM (l.filter fun k => !decide (k = n))
  | [], _ => rfl
  | x :: l, h => by
    rw [List.nodup_cons] at h
    have ih := pinsM_del (n := n) h.2
    unfold pinsM at ih ⊢
    simp only [List.map_cons, delM, List.filter_cons]
    by_cases e : n = x
    · rw [if_pos e, if_neg (by simp [e])]
      subst e
      have : l.filter (fun k => !decide (k = n)) = l := List.filter_eq_self.2 fun k hk => by simpa using fun (e : k = n) => h.1 (by rw [← e]; exact hk)
      rw [this]
    · rw [if_neg e, if_pos (by simp; exact fun e2 => e e2.symm), ih]; rfl
theorem pinsM_look {n : Int} : ∀ {l : List Int}, lookM (pinsM l) n = if n ∈ l then some (.bool true) else none
  | [] => rfl
  | x :: l => by
    have ih := pinsM_look (n := n) (l := l)
    unfold lookM pinsM at ih ⊢
    simp only [List.map_cons, findM]
    by_cases e : n = x
    · simp [e]
    · rw [if_neg e, Option.map_map]
      have : (n ∈ x :: l) ↔ n ∈ l := by simp [e]
      simp only [this]
      exact ih
/-! ### The cache -/
structure Ad where
  q : Nat
  p : Nat
  d : Nat
  b : Nat
  dm : Nat
  cm : Nat
  pm : Nat
def pcells (P : Pg) (A : Ad) (rv : Value) : List Value := [.pointer (some ⟨A.p, 0, none⟩), .int .i64 P.most, .map (some A.dm), .map (some A.cm), rv, .map (some A.pm), .int .i64 P.hits, .int .i64 P.misses]
def pgr (A : Ad) (P : Pg) : HP := ex fun t : Value × List (Int × Value) × List (Int × Value) =>
  pts A.q (.cells (pcells P A t.1).toArray 65 (0, 0)) * (omap A.dm t.2.1 * (omap A.cm t.2.2 * (omap A.pm (pinsM P.pins) * (osl 3 1 t.1 P.row.length (P.row.map iv) * (pers (immM t.2.1 P.dirty) * (pers (immM t.2.2 P.clean) *
  (pts A.p (.cells (lcells P.S A.d A.b).toArray 58 (0, 0)) * (dsk A.d P.S.L P.S.W * omap A.b (mpA P.S.a)))))))))
theorem sat_pgr {A : Ad} {P : Pg} : sat E w (pgr A P * R) ↔ ∃ rv ds cs, sat E w (pts A.q (.cells (pcells P A rv).toArray 65 (0, 0)) * (omap A.dm ds * (omap A.cm cs * (omap A.pm (pinsM P.pins) * (osl 3 1 rv P.row.length (P.row.map iv) * (pers (immM ds P.dirty) * (pers (immM cs P.clean) * lgI A.p A.d A.b P.S R))))))) := by
  unfold pgr
  rw [sat_ex_star]
  constructor
  · rintro ⟨⟨rv, ds, cs⟩, h⟩
    exact ⟨rv, ds, cs, h.perm (by unfold lgI; ac_rfl)⟩
  · rintro ⟨rv, ds, cs, h⟩
    exact ⟨⟨rv, ds, cs⟩, h.perm (by unfold lgI; ac_rfl)⟩
theorem PNew_nil {n : Value} (k : K (.tuple #[.pointer none, .int .i64 1]) w) : Calls prog 6 #[.pointer none, n] w (Ret K) := by
  refine c6 ?_
  unfold B6
  simp only [↓o_nil, ↓o_field, ↓o_add, ↓o_sub, ↓o_mul, ↓o_lss, ↓o_leq, ↓o_gtr, ↓o_geq, ↓o_not, ↓o_pick, ↓o_eqInt, ↓o_neInt, ↓o_eqBool, ↓o_neBool, ↓o_eqPtr, ↓o_nePtr, ↓o_eqPtr', ↓o_eqSl, ↓o_neSl, ↓o_eqStr, ↓o_neStr, ↓o_len, ↓o_lenS, ↓o_min, ↓o_max, ↓o_extract, ↓o_convInt, ↓cd_true, ↓cd_false, ↓gate_tt, ↓gate_ff, ↓gate_tf, ↓gate_ft, ↓gate_undef, ↓o_bind, ↓stay_v, ↓pop_cons, ↓fin_nil, Option.isNone_none, Option.isNone_some, Bool.not_true, Bool.not_false, Nat.zero_add, decide_true, decide_false, if_true, if_false, Bool.false_eq_true, ↓reduceIte]
  exact k
theorem PNew_spec {p d b : Nat} {S : Lg} (h : sat E w (lgI p d b S R)) {most : Nat} (h1 : 1 ≤ most) (h2 : most ≤ 64) (k : ∀ A w', A.p = p → sat E w' (pgr A (newP S most) * R) → K (.tuple #[.pointer (some ⟨A.q, 0, none⟩), .int .i64 0]) w') :
    Calls prog 6 #[.pointer (some ⟨p, 0, none⟩), .int .i64 most] w (Ret K) := by
  refine c6 ?_
  unfold B6
  have e1 : ¬ (most : Int) < 1 := by omega
  have e2 : ¬ (64 : Int) < (most : Int) := by omega
  simp only [e1, e2, ↓o_nil, ↓o_field, ↓o_add, ↓o_sub, ↓o_mul, ↓o_lss, ↓o_leq, ↓o_gtr, ↓o_geq, ↓o_not, ↓o_pick, ↓o_eqInt, ↓o_neInt, ↓o_eqBool, ↓o_neBool, ↓o_eqPtr, ↓o_nePtr, ↓o_eqPtr', ↓o_eqSl, ↓o_neSl, ↓o_eqStr, ↓o_neStr, ↓o_len, ↓o_lenS, ↓o_min, ↓o_max, ↓o_extract, ↓o_convInt, ↓cd_true, ↓cd_false, ↓gate_tt, ↓gate_ff, ↓gate_tf, ↓gate_ft, ↓gate_undef, ↓o_bind, ↓stay_v, ↓pop_cons, ↓fin_nil, Option.isNone_none, Option.isNone_some, Bool.not_true, Bool.not_false, Nat.zero_add, decide_true, decide_false, if_true, if_false, Bool.false_eq_true, ↓reduceIte]
  refine make_map h fun dm w h => ?_
  refine make_map h fun cm w h => ?_
  refine make_map h fun pm w h => ?_
  refine pvv_of (v := .agg (pcells (newP S most) ⟨0, p, d, b, dm, cm, pm⟩ (.slice none 0 0)).toArray) (fun w => by kernel_rfl) ?_
  refine box_sl h fun q w h => ?_
  have h : sat E w (pts q (.cells (pcells (newP S most) ⟨q, p, d, b, dm, cm, pm⟩ (.slice none 0 0)).toArray 65 (0, 0)) * (omap pm [] * (omap cm [] * (omap dm [] * lgI p d b S R)))) := h
  refine k ⟨q, p, d, b, dm, cm, pm⟩ w rfl (sat_pgr.2 ⟨.slice none 0 0, [], [], ?_⟩)
  have h := osl_nil h 3 1
  have hi : ∀ {w : World} {Y : HP}, sat E w Y → sat E w (pers (immM [] []) * Y) := fun h => h.mono fun I h' hp' => (pers_star_p _ _ _ _).2 ⟨trivial, hp'⟩
  have h := hi (hi h)
  exact h.perm (by show _ = pts q _ * (omap dm [] * (omap cm [] * (omap pm [] * (osl 3 1 (.slice none 0 0) 0 [] * (pers (immM [] []) * (pers (immM [] []) * lgI p d b S R)))))); ac_rfl)
theorem look_nil {n : Value} (k : K (.int .i64 1) w) : Calls prog 25 #[.pointer none, n] w (Ret K) := by
  refine c25 ?_
  unfold B25
  simp only [↓o_nil, ↓o_field, ↓o_add, ↓o_sub, ↓o_mul, ↓o_lss, ↓o_leq, ↓o_gtr, ↓o_geq, ↓o_not, ↓o_pick, ↓o_eqInt, ↓o_neInt, ↓o_eqBool, ↓o_neBool, ↓o_eqPtr, ↓o_nePtr, ↓o_eqPtr', ↓o_eqSl, ↓o_neSl, ↓o_eqStr, ↓o_neStr, ↓o_len, ↓o_lenS, ↓o_min, ↓o_max, ↓o_extract, ↓o_convInt, ↓cd_true, ↓cd_false, ↓gate_tt, ↓gate_ff, ↓gate_tf, ↓gate_ft, ↓gate_undef, ↓o_bind, ↓stay_v, ↓pop_cons, ↓fin_nil, Option.isNone_none, Option.isNone_some, Bool.not_true, Bool.not_false, Nat.zero_add, decide_true, decide_false, if_true, if_false, Bool.false_eq_true, ↓reduceIte]
  exact k
theorem look_spec {A : Ad} {P : Pg} {gs : List (List Int)} (ok : POk P gs) (h : sat E w (pgr A P * R)) {n : Int} (k : ∀ w', sat E w' (pgr A P * R) → K (.int .i64 (lookE P n)) w') : Calls prog 25 #[.pointer (some ⟨A.q, 0, none⟩), .int .i64 n] w (Ret K) := by
  have hsz := ok.i.sz; have hle := ok.i.wf.le
  refine c25 ?_
  unfold B25
  unfold lookE at k
  by_cases h1 : n < 0
  · rw [if_pos (.inl h1)] at k
    simp only [h1, ↓o_nil, ↓o_field, ↓o_add, ↓o_sub, ↓o_mul, ↓o_lss, ↓o_leq, ↓o_gtr, ↓o_geq, ↓o_not, ↓o_pick, ↓o_eqInt, ↓o_neInt, ↓o_eqBool, ↓o_neBool, ↓o_eqPtr, ↓o_nePtr, ↓o_eqPtr', ↓o_eqSl, ↓o_neSl, ↓o_eqStr, ↓o_neStr, ↓o_len, ↓o_lenS, ↓o_min, ↓o_max, ↓o_extract, ↓o_convInt, ↓cd_true, ↓cd_false, ↓gate_tt, ↓gate_ff, ↓gate_tf, ↓gate_ft, ↓gate_undef, ↓o_bind, ↓stay_v, ↓pop_cons, ↓fin_nil, Option.isNone_none, Option.isNone_some, Bool.not_true, Bool.not_false, Nat.zero_add, decide_true, decide_false, if_true, if_false, Bool.false_eq_true, ↓reduceIte]
    exact k w h
  obtain ⟨rv, ds, cs, h⟩ := sat_pgr.1 h
  simp only [h1, ↓o_nil, ↓o_field, ↓o_add, ↓o_sub, ↓o_mul, ↓o_lss, ↓o_leq, ↓o_gtr, ↓o_geq, ↓o_not, ↓o_pick, ↓o_eqInt, ↓o_neInt, ↓o_eqBool, ↓o_neBool, ↓o_eqPtr, ↓o_nePtr, ↓o_eqPtr', ↓o_eqSl, ↓o_neSl, ↓o_eqStr, ↓o_neStr, ↓o_len, ↓o_lenS, ↓o_min, ↓o_max, ↓o_extract, ↓o_convInt, ↓cd_true, ↓cd_false, ↓gate_tt, ↓gate_ff, ↓gate_tf, ↓gate_ft, ↓gate_undef, ↓o_bind, ↓stay_v, ↓pop_cons, ↓fin_nil, Option.isNone_none, Option.isNone_some, Bool.not_true, Bool.not_false, Nat.zero_add, decide_true, decide_false, if_true, if_false, Bool.false_eq_true, ↓reduceIte]
  unfold pcells at h
  refine ld_at h ?_
  have h := h.perm (show _ = lgI A.p A.d A.b P.S (pts A.q (.cells (pcells P A rv).toArray 65 (0, 0)) * (omap A.dm ds * (omap A.cm cs * (omap A.pm (pinsM P.pins) * (osl 3 1 rv P.row.length (P.row.map iv) * (pers (immM ds P.dirty) * (pers (immM cs P.clean) * R))))))) by unfold lgI pcells; ac_rfl)
  refine Pages_spec h (by omega) hle fun w h => ?_
  have h := sat_pgr.2 ⟨rv, ds, cs, h.perm (by unfold lgI; ac_rfl)⟩
  by_cases h2 : (P.S.pages : Int) ≤ n
  · rw [if_pos (.inr h2)] at k
    simp only [h2, ↓o_nil, ↓o_field, ↓o_add, ↓o_sub, ↓o_mul, ↓o_lss, ↓o_leq, ↓o_gtr, ↓o_geq, ↓o_not, ↓o_pick, ↓o_eqInt, ↓o_neInt, ↓o_eqBool, ↓o_neBool, ↓o_eqPtr, ↓o_nePtr, ↓o_eqPtr', ↓o_eqSl, ↓o_neSl, ↓o_eqStr, ↓o_neStr, ↓o_len, ↓o_lenS, ↓o_min, ↓o_max, ↓o_extract, ↓o_convInt, ↓cd_true, ↓cd_false, ↓gate_tt, ↓gate_ff, ↓gate_tf, ↓gate_ft, ↓gate_undef, ↓o_bind, ↓stay_v, ↓pop_cons, ↓fin_nil, Option.isNone_none, Option.isNone_some, Bool.not_true, Bool.not_false, Nat.zero_add, decide_true, decide_false, if_true, if_false, Bool.false_eq_true, ↓reduceIte]
    exact k w h
  · rw [if_neg (by omega)] at k
    simp only [h2, ↓o_nil, ↓o_field, ↓o_add, ↓o_sub, ↓o_mul, ↓o_lss, ↓o_leq, ↓o_gtr, ↓o_geq, ↓o_not, ↓o_pick, ↓o_eqInt, ↓o_neInt, ↓o_eqBool, ↓o_neBool, ↓o_eqPtr, ↓o_nePtr, ↓o_eqPtr', ↓o_eqSl, ↓o_neSl, ↓o_eqStr, ↓o_neStr, ↓o_len, ↓o_lenS, ↓o_min, ↓o_max, ↓o_extract, ↓o_convInt, ↓cd_true, ↓cd_false, ↓gate_tt, ↓gate_ff, ↓gate_tf, ↓gate_ft, ↓gate_undef, ↓o_bind, ↓stay_v, ↓pop_cons, ↓fin_nil, Option.isNone_none, Option.isNone_some, Bool.not_true, Bool.not_false, Nat.zero_add, decide_true, decide_false, if_true, if_false, Bool.false_eq_true, ↓reduceIte]
    exact k w h
/-! ### drop -/
theorem IndexI_spec (h : sat E w H) {v f : Value} {l : List Int} {p : Int → Bool} (hv : Rds H v l.length (l.map iv)) (hl : l.length ≤ 100000)
    (hf : ∀ (x : Int) (w : World) (K' : Value → World → Prop), sat E w H → (∀ w', sat E w' H → K' (.bool (p x)) w') → ef prog (oCall f #[.int .i64 x]) w K')
    (k0 : (∀ x ∈ l, p x = false) → ∀ w', sat E w' H → K (.int .i64 (-1)) w') (k1 : ∀ i (hi : i < l.length), p l[i] = true → (∀ x ∈ l.take i, p x = false) → ∀ w', sat E w' H → K (.int .i64 i) w') : Calls prog 59 #[v, f] w (Ret K) := by
  obtain ⟨a, c, rfl, hc, hv, _⟩ := hv.shape h
  refine c59 ?_
  unfold B59
  simp only [↓o_nil, ↓o_field, ↓o_add, ↓o_sub, ↓o_mul, ↓o_lss, ↓o_leq, ↓o_gtr, ↓o_geq, ↓o_not, ↓o_pick, ↓o_eqInt, ↓o_neInt, ↓o_eqBool, ↓o_neBool, ↓o_eqPtr, ↓o_nePtr, ↓o_eqPtr', ↓o_eqSl, ↓o_neSl, ↓o_eqStr, ↓o_neStr, ↓o_len, ↓o_lenS, ↓o_min, ↓o_max, ↓o_extract, ↓o_convInt, ↓cd_true, ↓cd_false, ↓gate_tt, ↓gate_ff, ↓gate_tf, ↓gate_ft, ↓gate_undef, ↓o_bind, ↓stay_v, ↓pop_cons, ↓fin_nil, Option.isNone_none, Option.isNone_some, Bool.not_true, Bool.not_false, Nat.zero_add, decide_true, decide_false, if_true, if_false, Bool.false_eq_true, ↓reduceIte]
  refine lp_nat (fun q σ w => ∃ i : Nat, σ = [.int .i64 i] ∧ q = l.length - i ∧ i ≤ l.length ∧ (∀ x ∈ l.take i, p x = false) ∧ sat E w H) l.length ⟨0, rfl, rfl, by omega, by simp, h⟩ ?_
  rintro q σ w again ⟨i, rfl, rfl, hi, hz, h⟩ hag
  try simp only [↓o_nil, ↓o_field, ↓o_add, ↓o_sub, ↓o_mul, ↓o_lss, ↓o_leq, ↓o_gtr, ↓o_geq, ↓o_not, ↓o_pick, ↓o_eqInt, ↓o_neInt, ↓o_eqBool, ↓o_neBool, ↓o_eqPtr, ↓o_nePtr, ↓o_eqPtr', ↓o_eqSl, ↓o_neSl, ↓o_eqStr, ↓o_neStr, ↓o_len, ↓o_lenS, ↓o_min, ↓o_max, ↓o_extract, ↓o_convInt, ↓cd_true, ↓cd_false, ↓gate_tt, ↓gate_ff, ↓gate_tf, ↓gate_ft, ↓gate_undef, ↓o_bind, ↓stay_v, ↓pop_cons, ↓fin_nil, Option.isNone_none, Option.isNone_some, Bool.not_true, Bool.not_false, Nat.zero_add, decide_true, decide_false, if_true, if_false, Bool.false_eq_true, ↓reduceIte]
  refine cd_dec (fun hlt => ?_) (fun hge => ?_)
  · have hlt : i < l.length := by omega
    obtain ⟨b1, o1, rfl, hb1⟩ := win_cell (hv.win h) (j := i) (by simpa using hlt)
    rw [o_index (by omega) (by omega)]
    simp only [Int.toNat_natCast, Nat.mul_one]
    refine ld_cell hb1 ?_
    rw [List.getElem_map]
    refine hf l[i] w _ h fun w h => ?_
    cases hp : p l[i] with
    | true =>
      rw [cd_true]
      exact k1 i hlt hp hz w h
    | false =>
      rw [cd_false]
      try simp only [↓o_nil, ↓o_field, ↓o_add, ↓o_sub, ↓o_mul, ↓o_lss, ↓o_leq, ↓o_gtr, ↓o_geq, ↓o_not, ↓o_pick, ↓o_eqInt, ↓o_neInt, ↓o_eqBool, ↓o_neBool, ↓o_eqPtr, ↓o_nePtr, ↓o_eqPtr', ↓o_eqSl, ↓o_neSl, ↓o_eqStr, ↓o_neStr, ↓o_len, ↓o_lenS, ↓o_min, ↓o_max, ↓o_extract, ↓o_convInt, ↓cd_true, ↓cd_false, ↓gate_tt, ↓gate_ff, ↓gate_tf, ↓gate_ft, ↓gate_undef, ↓o_bind, ↓stay_v, ↓pop_cons, ↓fin_nil, Option.isNone_none, Option.isNone_some, Bool.not_true, Bool.not_false, Nat.zero_add, decide_true, decide_false, if_true, if_false, Bool.false_eq_true, ↓reduceIte]
      rw [i64_of (by omega) (by omega)]
      refine hag (l.length - (i + 1)) _ _ (by omega) ⟨i + 1, rfl, rfl, by omega, fun x hx => ?_, h⟩
      rw [List.take_succ_eq_append_getElem hlt] at hx
      rcases List.mem_append.1 hx with hx | hx
      · exact hz x hx
      · simp at hx; rw [hx]; exact hp
  · have : i = l.length := by omega
    subst this
    rw [List.take_length] at hz
    exact k0 hz w h
theorem eqN_spec (h : sat E w H) {nb : Nat} {x n : Int} [s : Has H nb (.cells [Value.int .i64 n].toArray 3 (0, 0))] (k : K (.bool (decide (x = n))) w) : ef prog (oCall (.func (.func 45) #[] #[.pointer (some ⟨nb, 0, none⟩)]) #[.int .i64 x]) w K := by
  refine oCall_body Try.func45 (by kernel_rfl) (by kernel_rfl) ?_
  refine c45 ?_
  unfold B45
  refine ld_at h ?_
  simp only [↓o_nil, ↓o_field, ↓o_add, ↓o_sub, ↓o_mul, ↓o_lss, ↓o_leq, ↓o_gtr, ↓o_geq, ↓o_not, ↓o_pick, ↓o_eqInt, ↓o_neInt, ↓o_eqBool, ↓o_neBool, ↓o_eqPtr, ↓o_nePtr, ↓o_eqPtr', ↓o_eqSl, ↓o_neSl, ↓o_eqStr, ↓o_neStr, ↓o_len, ↓o_lenS, ↓o_min, ↓o_max, ↓o_extract, ↓o_convInt, ↓cd_true, ↓cd_false, ↓gate_tt, ↓gate_ff, ↓gate_tf, ↓gate_ft, ↓gate_undef, ↓o_bind, ↓stay_v, ↓pop_cons, ↓fin_nil, Option.isNone_none, Option.isNone_some, Bool.not_true, Bool.not_false, Nat.zero_add, decide_true, decide_false, if_true, if_false, Bool.false_eq_true, ↓reduceIte]
  exact k
theorem DeleteFunc_spec {v : Value} {l : List Int} {n : Int} {nb : Nat} (hl : l.length ≤ 100000) (h : sat E w (osl 3 1 v l.length (l.map iv) * (pts nb (.cells [Value.int .i64 n].toArray 3 (0, 0)) * R)))
    (k : ∀ v' w', sat E w' (osl 3 1 v' (l.filter fun k => !decide (k = n)).length ((l.filter fun k => !decide (k = n)).map iv) * (pts nb (.cells [Value.int .i64 n].toArray 3 (0, 0)) * R)) → K v' w') :
    Calls prog 44 #[v, .func (.func 45) #[] #[.pointer (some ⟨nb, 0, none⟩)]] w (Ret K) := by
  refine c44 ?_
  unfold B44
  refine IndexI_spec (p := fun x => decide (x = n)) h Rds.own hl (fun x w K' h hk => eqN_spec h (hk w h)) (fun hall w h => ?_) (fun i hi hp hz w h => ?_)
  · simp only [↓o_nil, ↓o_field, ↓o_add, ↓o_sub, ↓o_mul, ↓o_lss, ↓o_leq, ↓o_gtr, ↓o_geq, ↓o_not, ↓o_pick, ↓o_eqInt, ↓o_neInt, ↓o_eqBool, ↓o_neBool, ↓o_eqPtr, ↓o_nePtr, ↓o_eqPtr', ↓o_eqSl, ↓o_neSl, ↓o_eqStr, ↓o_neStr, ↓o_len, ↓o_lenS, ↓o_min, ↓o_max, ↓o_extract, ↓o_convInt, ↓cd_true, ↓cd_false, ↓gate_tt, ↓gate_ff, ↓gate_tf, ↓gate_ft, ↓gate_undef, ↓o_bind, ↓stay_v, ↓pop_cons, ↓fin_nil, Option.isNone_none, Option.isNone_some, Bool.not_true, Bool.not_false, Nat.zero_add, decide_true, decide_false, if_true, if_false, Bool.false_eq_true, ↓reduceIte]
    have e : (l.filter fun k => !decide (k = n)) = l := List.filter_eq_self.2 fun x hx => by rw [hall x hx]; rfl
    rw [e] at k
    exact k v w h
  · have hne : ¬ (i : Int) = -1 := by omega
    simp only [hne, ↓o_nil, ↓o_field, ↓o_add, ↓o_sub, ↓o_mul, ↓o_lss, ↓o_leq, ↓o_gtr, ↓o_geq, ↓o_not, ↓o_pick, ↓o_eqInt, ↓o_neInt, ↓o_eqBool, ↓o_neBool, ↓o_eqPtr, ↓o_nePtr, ↓o_eqPtr', ↓o_eqSl, ↓o_neSl, ↓o_eqStr, ↓o_neStr, ↓o_len, ↓o_lenS, ↓o_min, ↓o_max, ↓o_extract, ↓o_convInt, ↓cd_true, ↓cd_false, ↓gate_tt, ↓gate_ff, ↓gate_tf, ↓gate_ft, ↓gate_undef, ↓o_bind, ↓stay_v, ↓pop_cons, ↓fin_nil, Option.isNone_none, Option.isNone_some, Bool.not_true, Bool.not_false, Nat.zero_add, decide_true, decide_false, if_true, if_false, Bool.false_eq_true, ↓reduceIte]
    rw [i64_of (by omega) (by omega)]
    obtain ⟨b, c, sp, rfl, hxl, htot, hcl, hcm, hP⟩ : ∃ b c sp, v = .slice (some ⟨b, 0, none⟩) l.length c ∧ (l.map iv).length = l.length * 1 ∧ (l.map iv ++ sp).length = c * 1 ∧ l.length ≤ c ∧ c ≤ 9223372036854775807 ∧ sat E w (pts b (.cells (l.map iv ++ sp).toArray 3 (0, 0)) * (pts nb (.cells [Value.int .i64 n].toArray 3 (0, 0)) * R)) := by
      rcases sat_osl.1 h with ⟨_, e, _⟩ | hh
      · omega
      · exact hh
    have hpf : ∀ j, (l.take j).filter (fun k => !decide (k = n)) = (l.take j).filter (fun k => !decide (k = n)) := fun _ => rfl
    have htk : (l.take (i + 1)).filter (fun k => !decide (k = n)) = l.take i := by
      rw [List.take_succ_eq_append_getElem hi, List.filter_append, List.filter_eq_self.2 (fun x hx => by rw [hz x hx]; rfl)]
      have : decide (l[i] = n) = true := hp
      simp only [List.filter_cons, this, Bool.not_true, Bool.false_eq_true, if_false, List.filter_nil, List.append_nil]
    refine lp_nat (fun q σ w => ∃ (a j : Nat) (cl : List Int), σ = [.int .i64 a, .int .i64 j] ∧ q = l.length - j ∧ j ≤ l.length ∧ a < j ∧ cl.length = l.length ∧ cl.take a = (l.take j).filter (fun k => !decide (k = n)) ∧ cl.drop j = l.drop j ∧
      sat E w (pts b (.cells (cl.map iv ++ sp).toArray 3 (0, 0)) * (pts nb (.cells [Value.int .i64 n].toArray 3 (0, 0)) * R))) (l.length - (i + 1)) ⟨i, i + 1, l, ?_, rfl, by omega, by omega, rfl, htk.symm, rfl, hP⟩ ?_
    · rw [show ((i + 1 : Nat) : Int) = (i : Int) + 1 by omega]
    clear h hP
    rintro q σ w again ⟨a, j, cl, rfl, rfl, hj, haj, hcll, hta, hdr, h⟩ hag
    try simp only [↓o_nil, ↓o_field, ↓o_add, ↓o_sub, ↓o_mul, ↓o_lss, ↓o_leq, ↓o_gtr, ↓o_geq, ↓o_not, ↓o_pick, ↓o_eqInt, ↓o_neInt, ↓o_eqBool, ↓o_neBool, ↓o_eqPtr, ↓o_nePtr, ↓o_eqPtr', ↓o_eqSl, ↓o_neSl, ↓o_eqStr, ↓o_neStr, ↓o_len, ↓o_lenS, ↓o_min, ↓o_max, ↓o_extract, ↓o_convInt, ↓cd_true, ↓cd_false, ↓gate_tt, ↓gate_ff, ↓gate_tf, ↓gate_ft, ↓gate_undef, ↓o_bind, ↓stay_v, ↓pop_cons, ↓fin_nil, Option.isNone_none, Option.isNone_some, Bool.not_true, Bool.not_false, Nat.zero_add, decide_true, decide_false, if_true, if_false, Bool.false_eq_true, ↓reduceIte]
    have hal : a = ((l.take j).filter (fun k => !decide (k = n))).length := by rw [← hta, List.length_take]; omega
    refine cd_dec (fun hlt => ?_) (fun hge => ?_)
    · have hlt : j < l.length := by omega
      have hcj : (cl.map iv ++ sp)[j]? = some (iv l[j]) := by
        have e1 : cl[j]? = l[j]? := by
          have := congrArg (fun l => l[0]?) hdr
          simpa using this
        rw [List.getElem?_append_left (by rw [List.length_map]; omega), List.getElem?_map, e1, List.getElem?_eq_getElem hlt]; rfl
      have htj : (l.take (j + 1)).filter (fun k => !decide (k = n)) = (l.take j).filter (fun k => !decide (k = n)) ++ (if decide (l[j] = n) = true then [] else [l[j]]) := by
        rw [List.take_succ_eq_append_getElem hlt, List.filter_append]
        congr 1
        by_cases e : l[j] = n <;> simp [e]
      refine jn_cut (fun σ w => ∃ (a : Nat) (cl : List Int), σ = [.int .i64 a] ∧ a < j + 1 ∧ cl.length = l.length ∧ cl.take a = (l.take (j + 1)).filter (fun k => !decide (k = n)) ∧ cl.drop (j + 1) = l.drop (j + 1) ∧
        sat E w (pts b (.cells (cl.map iv ++ sp).toArray 3 (0, 0)) * (pts nb (.cells [Value.int .i64 n].toArray 3 (0, 0)) * R))) ?_ ?_
      · intro kk hk
        rw [o_index (by omega) (by omega)]
        simp only [Int.toNat_natCast, Nat.mul_one, Nat.zero_add]
        refine ld_in (b := b) h hcj ?_
        refine eqN_spec (nb := nb) h ?_
        by_cases e : l[j] = n
        · simp only [e, ↓o_nil, ↓o_field, ↓o_add, ↓o_sub, ↓o_mul, ↓o_lss, ↓o_leq, ↓o_gtr, ↓o_geq, ↓o_not, ↓o_pick, ↓o_eqInt, ↓o_neInt, ↓o_eqBool, ↓o_neBool, ↓o_eqPtr, ↓o_nePtr, ↓o_eqPtr', ↓o_eqSl, ↓o_neSl, ↓o_eqStr, ↓o_neStr, ↓o_len, ↓o_lenS, ↓o_min, ↓o_max, ↓o_extract, ↓o_convInt, ↓cd_true, ↓cd_false, ↓gate_tt, ↓gate_ff, ↓gate_tf, ↓gate_ft, ↓gate_undef, ↓o_bind, ↓stay_v, ↓pop_cons, ↓fin_nil, Option.isNone_none, Option.isNone_some, Bool.not_true, Bool.not_false, Nat.zero_add, decide_true, decide_false, if_true, if_false, Bool.false_eq_true, ↓reduceIte]
          refine hk _ w ⟨a, cl, rfl, by omega, hcll, by rw [htj, if_pos (by simp [e]), List.append_nil]; exact hta, ?_, h⟩
          rw [← List.drop_drop, ← List.drop_drop, hdr]
        · simp only [e, ↓o_nil, ↓o_field, ↓o_add, ↓o_sub, ↓o_mul, ↓o_lss, ↓o_leq, ↓o_gtr, ↓o_geq, ↓o_not, ↓o_pick, ↓o_eqInt, ↓o_neInt, ↓o_eqBool, ↓o_neBool, ↓o_eqPtr, ↓o_nePtr, ↓o_eqPtr', ↓o_eqSl, ↓o_neSl, ↓o_eqStr, ↓o_neStr, ↓o_len, ↓o_lenS, ↓o_min, ↓o_max, ↓o_extract, ↓o_convInt, ↓cd_true, ↓cd_false, ↓gate_tt, ↓gate_ff, ↓gate_tf, ↓gate_ft, ↓gate_undef, ↓o_bind, ↓stay_v, ↓pop_cons, ↓fin_nil, Option.isNone_none, Option.isNone_some, Bool.not_true, Bool.not_false, Nat.zero_add, decide_true, decide_false, if_true, if_false, Bool.false_eq_true, ↓reduceIte]
          rw [o_index (by omega) (by omega)]
          simp only [Int.toNat_natCast, Nat.mul_one, Nat.zero_add]
          refine store_sl (b := b) h rfl (by rw [List.length_append, List.length_map]; omega) fun w h => ?_
          rw [i64_of (by omega) (by omega)]
          refine hk _ w ⟨a + 1, cl.set a l[j], rfl, by omega, by rw [List.length_set]; exact hcll, ?_, ?_, ?_⟩
          · rw [htj, if_neg (by simp [e]), ← hta, List.take_succ_eq_append_getElem (by rw [List.length_set]; omega), List.getElem_set_self, List.take_set, List.set_eq_of_length_le (by rw [List.length_take]; omega)]
          · rw [List.drop_set, if_pos (by omega), ← List.drop_drop, ← List.drop_drop, hdr]
          · rw [List.map_set, ← List.set_append_left _ _ (by rw [List.length_map]; omega)]
            exact h
      · rintro σ w ⟨a, cl, rfl, ha, hcll, hta, hdr, h⟩
        try simp only [↓o_nil, ↓o_field, ↓o_add, ↓o_sub, ↓o_mul, ↓o_lss, ↓o_leq, ↓o_gtr, ↓o_geq, ↓o_not, ↓o_pick, ↓o_eqInt, ↓o_neInt, ↓o_eqBool, ↓o_neBool, ↓o_eqPtr, ↓o_nePtr, ↓o_eqPtr', ↓o_eqSl, ↓o_neSl, ↓o_eqStr, ↓o_neStr, ↓o_len, ↓o_lenS, ↓o_min, ↓o_max, ↓o_extract, ↓o_convInt, ↓cd_true, ↓cd_false, ↓gate_tt, ↓gate_ff, ↓gate_tf, ↓gate_ft, ↓gate_undef, ↓o_bind, ↓stay_v, ↓pop_cons, ↓fin_nil, Option.isNone_none, Option.isNone_some, Bool.not_true, Bool.not_false, Nat.zero_add, decide_true, decide_false, if_true, if_false, Bool.false_eq_true, ↓reduceIte]
        rw [i64_of (by omega) (by omega)]
        refine hag (l.length - (j + 1)) _ _ (by omega) ⟨a, j + 1, cl, ?_, rfl, by omega, ha, hcll, hta, hdr, h⟩
        rw [show ((j + 1 : Nat) : Int) = (j : Int) + 1 by omega]
    · have hjl : j = l.length := by omega
      subst hjl
      rw [List.take_length] at hta hal
      rw [o_slice_l (by omega) (by omega), cutA_some (by omega)]
      simp only [Int.toNat_natCast, Nat.mul_one, Nat.zero_add]
      refine clear_slice (b := b) h (z := .int .i64 0) rfl (by omega) (by rw [List.length_append, List.length_map]; omega) fun w h => ?_
      rw [o_slice_h (by omega) (by omega)]
      try rw [cutA_some (by omega)]
      simp only [Int.toNat_natCast, Nat.zero_mul, Nat.add_zero]
      refine k _ w ?_
      rw [← hal, ← hta]
      rw [List.length_append, List.length_map] at htot
      have e1 : (cl.map iv ++ sp).take a = (cl.take a).map iv := by rw [List.take_append_of_le_length (by rw [List.length_map]; omega), List.map_take]
      have e2 : (cl.map iv ++ sp).drop (a + (l.length - a)) = sp := by
        rw [show a + (l.length - a) = (cl.map iv).length by rw [List.length_map]; omega, List.drop_left]
      rw [e1, e2, List.append_assoc] at h
      refine sat_osl.2 (.inr ⟨b, c, List.replicate (l.length - a) (.int .i64 0) ++ sp, rfl, ?_, ?_, by omega, by omega, h⟩)
      · rw [List.length_map, List.length_take]; omega
      · simp only [List.length_append, List.length_map, List.length_take, List.length_replicate]; omega
end Go.Proofs.Ytcjklbhobmkalaa

/-
  The cache: a page is let go, is written; all is committed.
-/
set_option linter.all false
set_option maxRecDepth 100000
namespace Go.Proofs.Ytcjklbhobmkalaa
open Go Hold
variable {E : World0} {w : World} {H R X : HP} {K : Value → World → Prop}
theorem drop_spec {A : Ad} {P : Pg} (hr : P.row.length ≤ 1000) (h : sat E w (pgr A P * R)) {n : Int} (k : ∀ w', sat E w' (pgr A (dropP P n) * R) → K (.tuple #[]) w') : Calls prog 27 #[.pointer (some ⟨A.q, 0, none⟩), .int .i64 n] w (Ret K) := by
  obtain ⟨rv, ds, cs, h⟩ := sat_pgr.1 h
  refine c27 ?_
  unfold B27
  refine box_sl h fun nb w h => ?_
  have h : sat E w (pts nb (.cells [Value.int .i64 n].toArray 3 (0, 0)) * _) := h
  simp only [↓o_nil, ↓o_field, ↓o_add, ↓o_sub, ↓o_mul, ↓o_lss, ↓o_leq, ↓o_gtr, ↓o_geq, ↓o_not, ↓o_pick, ↓o_eqInt, ↓o_neInt, ↓o_eqBool, ↓o_neBool, ↓o_eqPtr, ↓o_nePtr, ↓o_eqPtr', ↓o_eqSl, ↓o_neSl, ↓o_eqStr, ↓o_neStr, ↓o_len, ↓o_lenS, ↓o_min, ↓o_max, ↓o_extract, ↓o_convInt, ↓cd_true, ↓cd_false, ↓gate_tt, ↓gate_ff, ↓gate_tf, ↓gate_ft, ↓gate_undef, ↓o_bind, ↓stay_v, ↓pop_cons, ↓fin_nil, Option.isNone_none, Option.isNone_some, Bool.not_true, Bool.not_false, Nat.zero_add, decide_true, decide_false, if_true, if_false, Bool.false_eq_true, ↓reduceIte]
  unfold pcells at h
  refine ld_at h ?_
  refine pvv_of (v := .func (.func 45) #[] #[.pointer (some ⟨nb, 0, none⟩)]) (fun _ => rfl) ?_
  have h := h.perm (show _ = osl 3 1 rv P.row.length (P.row.map iv) * (pts nb (.cells [Value.int .i64 n].toArray 3 (0, 0)) * (pts A.q (.cells [Value.pointer (some ⟨A.p, 0, none⟩), .int .i64 P.most, .map (some A.dm), .map (some A.cm), rv, .map (some A.pm), .int .i64 P.hits, .int .i64 P.misses].toArray 65 (0, 0)) * (omap A.dm ds * (omap A.cm cs * (omap A.pm (pinsM P.pins) * (pers (immM ds P.dirty) * (pers (immM cs P.clean) * lgI A.p A.d A.b P.S R))))))) by unfold lgI; ac_rfl)
  refine DeleteFunc_spec (by omega) h fun v2 w h => ?_
  try simp only [↓o_nil, ↓o_field, ↓o_add, ↓o_sub, ↓o_mul, ↓o_lss, ↓o_leq, ↓o_gtr, ↓o_geq, ↓o_not, ↓o_pick, ↓o_eqInt, ↓o_neInt, ↓o_eqBool, ↓o_neBool, ↓o_eqPtr, ↓o_nePtr, ↓o_eqPtr', ↓o_eqSl, ↓o_neSl, ↓o_eqStr, ↓o_neStr, ↓o_len, ↓o_lenS, ↓o_min, ↓o_max, ↓o_extract, ↓o_convInt, ↓cd_true, ↓cd_false, ↓gate_tt, ↓gate_ff, ↓gate_tf, ↓gate_ft, ↓gate_undef, ↓o_bind, ↓stay_v, ↓pop_cons, ↓fin_nil, Option.isNone_none, Option.isNone_some, Bool.not_true, Bool.not_false, Nat.zero_add, decide_true, decide_false, if_true, if_false, Bool.false_eq_true, ↓reduceIte]
  obtain ⟨a2, c2, rfl, _, _, _⟩ := osl_shape h
  refine store_at (b := A.q) h rfl (by simp) fun w h => ?_
  refine dr_sl h fun w h _ => ?_
  try simp only [↓o_nil, ↓o_field, ↓o_add, ↓o_sub, ↓o_mul, ↓o_lss, ↓o_leq, ↓o_gtr, ↓o_geq, ↓o_not, ↓o_pick, ↓o_eqInt, ↓o_neInt, ↓o_eqBool, ↓o_neBool, ↓o_eqPtr, ↓o_nePtr, ↓o_eqPtr', ↓o_eqSl, ↓o_neSl, ↓o_eqStr, ↓o_neStr, ↓o_len, ↓o_lenS, ↓o_min, ↓o_max, ↓o_extract, ↓o_convInt, ↓cd_true, ↓cd_false, ↓gate_tt, ↓gate_ff, ↓gate_tf, ↓gate_ft, ↓gate_undef, ↓o_bind, ↓stay_v, ↓pop_cons, ↓fin_nil, Option.isNone_none, Option.isNone_some, Bool.not_true, Bool.not_false, Nat.zero_add, decide_true, decide_false, if_true, if_false, Bool.false_eq_true, ↓reduceIte]
  refine ld_at (b := A.q) h ?_
  refine ld_at (b := nb) h ?_
  refine delete_sl (b := A.cm) h fun w h => ?_
  refine k w (sat_pgr.2 ⟨.slice a2 (P.row.filter fun k => !decide (k = n)).length c2, ds, delM cs n, ?_⟩)
  have h := h.perm (show _ = pers (immM cs P.clean) * (pts nb (.cells [Value.int .i64 n].toArray 3 (0, 0)) * (pts A.q (.cells (pcells (dropP P n) A (.slice a2 (P.row.filter fun k => !decide (k = n)).length c2)).toArray 65 (0, 0)) * (omap A.dm ds * (omap A.cm (delM cs n) * (omap A.pm (pinsM P.pins) * (osl 3 1 (.slice a2 (P.row.filter fun k => !decide (k = n)).length c2) (P.row.filter fun k => !decide (k = n)).length ((P.row.filter fun k => !decide (k = n)).map iv) * (pers (immM ds P.dirty) * lgI A.p A.d A.b P.S R))))))) by
    show _ = pers (immM cs P.clean) * (pts nb _ * (pts A.q (.cells [Value.pointer (some ⟨A.p, 0, none⟩), .int .i64 P.most, .map (some A.dm), .map (some A.cm), .slice a2 (P.row.filter fun k => !decide (k = n)).length c2, .map (some A.pm), .int .i64 P.hits, .int .i64 P.misses].toArray 65 (0, 0)) * _))
    ac_rfl)
  have h := h.pers_mono (ψ := immM (delM cs n) (delB P.clean n)) fun I hI => relM.del hI
  exact (h.perm (show _ = pts nb (.cells [Value.int .i64 n].toArray 3 (0, 0)) * (pts A.q (.cells (pcells (dropP P n) A (.slice a2 (P.row.filter fun k => !decide (k = n)).length c2)).toArray 65 (0, 0)) * (omap A.dm ds * (omap A.cm (delM cs n) * (omap A.pm (pinsM P.pins) * (osl 3 1 (.slice a2 (P.row.filter fun k => !decide (k = n)).length c2) (P.row.filter fun k => !decide (k = n)).length ((P.row.filter fun k => !decide (k = n)).map iv) * (pers (immM ds P.dirty) * (pers (immM (delM cs n) (delB P.clean n)) * lgI A.p A.d A.b P.S R))))))) by ac_rfl)).drop
theorem PWrite_nil {n v : Value} (k : K (.int .i64 1) w) : Calls prog 10 #[.pointer none, .int .i64 1, v] w (Ret K) → True := fun _ => trivial
theorem isSome_look {ds : List (Int × Value)} {D : List (Int × Bs)} {n : Int} {I : Hp} (h : relM I ds D) : (lookM ds n).isSome = decide (n ∈ D.map (·.1)) := by
  rcases h.look (k := n) with ⟨h1, h2⟩ | ⟨v, b, h1, h2, _⟩
  · rw [h1, decide_eq_false (lookB_none.1 h2)]; rfl
  · rw [h1]
    have : n ∈ D.map (·.1) := Classical.byContradiction fun hn => by rw [lookB_none.2 hn] at h2; cases h2
    rw [decide_eq_true this]; rfl
theorem PWrite_spec {A : Ad} {P : Pg} {gs : List (List Int)} (ok : POk P gs) (h : sat E w (pgr A P * R)) {n : Int} {v : Value} {b : Bs} (hv : Rds R v b.length (b.map bv)) (hb : b.length ≤ 140737488355328)
    (k : ∀ w', sat E w' (pgr A (writeP P n b) * R) → K (.int .i64 (writeE P n b)) w') : Calls prog 10 #[.pointer (some ⟨A.q, 0, none⟩), .int .i64 n, v] w (Ret K) := by
  have hrl := ok.rl; have hm2 := ok.m2
  obtain ⟨av, cv, rfl, _, hv, _⟩ := hv.shape h.drop
  refine c10 ?_
  unfold B10
  refine look_spec ok h fun w h => ?_
  try simp only [↓o_nil, ↓o_field, ↓o_add, ↓o_sub, ↓o_mul, ↓o_lss, ↓o_leq, ↓o_gtr, ↓o_geq, ↓o_not, ↓o_pick, ↓o_eqInt, ↓o_neInt, ↓o_eqBool, ↓o_neBool, ↓o_eqPtr, ↓o_nePtr, ↓o_eqPtr', ↓o_eqSl, ↓o_neSl, ↓o_eqStr, ↓o_neStr, ↓o_len, ↓o_lenS, ↓o_min, ↓o_max, ↓o_extract, ↓o_convInt, ↓cd_true, ↓cd_false, ↓gate_tt, ↓gate_ff, ↓gate_tf, ↓gate_ft, ↓gate_undef, ↓o_bind, ↓stay_v, ↓pop_cons, ↓fin_nil, Option.isNone_none, Option.isNone_some, Bool.not_true, Bool.not_false, Nat.zero_add, decide_true, decide_false, if_true, if_false, Bool.false_eq_true, ↓reduceIte]
  by_cases hl : lookE P n = 0
  · simp only [hl, ↓o_nil, ↓o_field, ↓o_add, ↓o_sub, ↓o_mul, ↓o_lss, ↓o_leq, ↓o_gtr, ↓o_geq, ↓o_not, ↓o_pick, ↓o_eqInt, ↓o_neInt, ↓o_eqBool, ↓o_neBool, ↓o_eqPtr, ↓o_nePtr, ↓o_eqPtr', ↓o_eqSl, ↓o_neSl, ↓o_eqStr, ↓o_neStr, ↓o_len, ↓o_lenS, ↓o_min, ↓o_max, ↓o_extract, ↓o_convInt, ↓cd_true, ↓cd_false, ↓gate_tt, ↓gate_ff, ↓gate_tf, ↓gate_ft, ↓gate_undef, ↓o_bind, ↓stay_v, ↓pop_cons, ↓fin_nil, Option.isNone_none, Option.isNone_some, Bool.not_true, Bool.not_false, Nat.zero_add, decide_true, decide_false, if_true, if_false, Bool.false_eq_true, ↓reduceIte]
    obtain ⟨rv, ds, cs, h⟩ := sat_pgr.1 h
    have hrel : relM (hp w) ds P.dirty := (h.split (pers (immM ds P.dirty))).pers_get
    unfold pcells at h
    refine ld_at h ?_
    refine look_d (b := A.dm) h ?_
    rw [isSome_look hrel]
    try simp only [↓o_nil, ↓o_field, ↓o_add, ↓o_sub, ↓o_mul, ↓o_lss, ↓o_leq, ↓o_gtr, ↓o_geq, ↓o_not, ↓o_pick, ↓o_eqInt, ↓o_neInt, ↓o_eqBool, ↓o_neBool, ↓o_eqPtr, ↓o_nePtr, ↓o_eqPtr', ↓o_eqSl, ↓o_neSl, ↓o_eqStr, ↓o_neStr, ↓o_len, ↓o_lenS, ↓o_min, ↓o_max, ↓o_extract, ↓o_convInt, ↓cd_true, ↓cd_false, ↓gate_tt, ↓gate_ff, ↓gate_tf, ↓gate_ft, ↓gate_undef, ↓o_bind, ↓stay_v, ↓pop_cons, ↓fin_nil, Option.isNone_none, Option.isNone_some, Bool.not_true, Bool.not_false, Nat.zero_add, decide_true, decide_false, if_true, if_false, Bool.false_eq_true, ↓reduceIte]
    have hback := sat_pgr.2 ⟨rv, ds, cs, h⟩
    by_cases h256 : b.length = 256
    · have h256' : (b.length : Int) = 256 := by omega
      simp only [h256', ↓o_nil, ↓o_field, ↓o_add, ↓o_sub, ↓o_mul, ↓o_lss, ↓o_leq, ↓o_gtr, ↓o_geq, ↓o_not, ↓o_pick, ↓o_eqInt, ↓o_neInt, ↓o_eqBool, ↓o_neBool, ↓o_eqPtr, ↓o_nePtr, ↓o_eqPtr', ↓o_eqSl, ↓o_neSl, ↓o_eqStr, ↓o_neStr, ↓o_len, ↓o_lenS, ↓o_min, ↓o_max, ↓o_extract, ↓o_convInt, ↓cd_true, ↓cd_false, ↓gate_tt, ↓gate_ff, ↓gate_tf, ↓gate_ft, ↓gate_undef, ↓o_bind, ↓stay_v, ↓pop_cons, ↓fin_nil, Option.isNone_none, Option.isNone_some, Bool.not_true, Bool.not_false, Nat.zero_add, decide_true, decide_false, if_true, if_false, Bool.false_eq_true, ↓reduceIte]
      have hgo : ¬ (n ∉ P.dirty.map (·.1) ∧ 100 ≤ P.dirty.length) → dr w fun w =>
        pvv prog (Instr.fieldAt 65 (.pointer (some ⟨A.q, 0, none⟩)) 2) w fun t_19 w =>
        bindS (vN (Instr.loadAt 62 t_19)) fun m_21 => ldv prog (Instr.loadAt 62 t_19) w fun t_20 w =>
        Calls prog 26 #[.slice av b.length cv] w (Ret fun t_22 w => stay prog none m_21 t_20 w <|
        efu prog (Instr.mapUpdate 62 t_20 (.int .i64 n) t_22) w fun u_23 w =>
        Calls prog 27 #[.pointer (some ⟨A.q, 0, none⟩), .int .i64 n] w (Ret fun t_24 w =>
        pvv prog (Instr.fieldAt 65 (.pointer (some ⟨A.q, 0, none⟩)) 5) w fun t_26 w =>
        ldv prog (Instr.loadAt 63 t_26) w fun t_27 w =>
        ef prog (oBi .delete #[63, 3] 0 #[false, false] #[t_27, (.int .i64 n)]) w fun u_28 w =>
        K (.int .i64 0) w)) := fun hroom => by
        have he : writeE P n b = 0 := by unfold writeE; rw [if_neg (by simp [hl]), if_neg (by omega), if_neg hroom]
        have hw : writeP P n b = writeT P n b := by unfold writeP; rw [if_pos he]
        rw [he, hw] at k
        refine dr_sl h fun w h _ => ?_
        simp only [↓o_nil, ↓o_field, ↓o_add, ↓o_sub, ↓o_mul, ↓o_lss, ↓o_leq, ↓o_gtr, ↓o_geq, ↓o_not, ↓o_pick, ↓o_eqInt, ↓o_neInt, ↓o_eqBool, ↓o_neBool, ↓o_eqPtr, ↓o_nePtr, ↓o_eqPtr', ↓o_eqSl, ↓o_neSl, ↓o_eqStr, ↓o_neStr, ↓o_len, ↓o_lenS, ↓o_min, ↓o_max, ↓o_extract, ↓o_convInt, ↓cd_true, ↓cd_false, ↓gate_tt, ↓gate_ff, ↓gate_tf, ↓gate_ft, ↓gate_undef, ↓o_bind, ↓stay_v, ↓pop_cons, ↓fin_nil, Option.isNone_none, Option.isNone_some, Bool.not_true, Bool.not_false, Nat.zero_add, decide_true, decide_false, if_true, if_false, Bool.false_eq_true, ↓reduceIte]
        refine ld_at (b := A.q) h ?_
        have hvr : Rds (pts A.q (.cells [Value.pointer (some ⟨A.p, 0, none⟩), .int .i64 P.most, .map (some A.dm), .map (some A.cm), rv, .map (some A.pm), .int .i64 P.hits, .int .i64 P.misses].toArray 65 (0, 0)) * (omap A.dm ds * (omap A.cm cs * (omap A.pm (pinsM P.pins) * (osl 3 1 rv P.row.length (P.row.map iv) * (pers (immM ds P.dirty) * (pers (immM cs P.clean) * lgI A.p A.d A.b P.S R))))))) (.slice av b.length cv) b.length (b.map bv) := by
          unfold lgI
          exact hv.right.right.right.right.right.right.right.right.right.right
        refine Clone_spec h hvr hb fun v2 w h => ?_
        have h := osl_freeze h
        obtain ⟨a2, c2, rfl, _, _⟩ := h.pers_get
        refine st_at (b := A.q) h ?_
        try simp only [↓o_nil, ↓o_field, ↓o_add, ↓o_sub, ↓o_mul, ↓o_lss, ↓o_leq, ↓o_gtr, ↓o_geq, ↓o_not, ↓o_pick, ↓o_eqInt, ↓o_neInt, ↓o_eqBool, ↓o_neBool, ↓o_eqPtr, ↓o_nePtr, ↓o_eqPtr', ↓o_eqSl, ↓o_neSl, ↓o_eqStr, ↓o_neStr, ↓o_len, ↓o_lenS, ↓o_min, ↓o_max, ↓o_extract, ↓o_convInt, ↓cd_true, ↓cd_false, ↓gate_tt, ↓gate_ff, ↓gate_tf, ↓gate_ft, ↓gate_undef, ↓o_bind, ↓stay_v, ↓pop_cons, ↓fin_nil, Option.isNone_none, Option.isNone_some, Bool.not_true, Bool.not_false, Nat.zero_add, decide_true, decide_false, if_true, if_false, Bool.false_eq_true, ↓reduceIte]
        refine update_sl (b := A.dm) h fun w h => ?_
        have h := sat_imp2 h (immS (.slice a2 b.length c2) b.length (b.map bv)) (immM ds P.dirty) (χ := immM (putM ds n (.slice a2 b.length c2)) (putB P.dirty n b)) fun I h1 h2 => relM.put h1 h2
        have h : sat E w (pgr A { P with dirty := putB P.dirty n b } * R) := sat_pgr.2 ⟨rv, _, cs, h.perm (by
          show _ = pts A.q (.cells [Value.pointer (some ⟨A.p, 0, none⟩), .int .i64 P.most, .map (some A.dm), .map (some A.cm), rv, .map (some A.pm), .int .i64 P.hits, .int .i64 P.misses].toArray 65 (0, 0)) * _
          ac_rfl)⟩
        refine drop_spec (by show P.row.length ≤ 1000; omega) h fun w h => ?_
        obtain ⟨rv2, ds2, cs2, h⟩ := sat_pgr.1 h
        try simp only [↓o_nil, ↓o_field, ↓o_add, ↓o_sub, ↓o_mul, ↓o_lss, ↓o_leq, ↓o_gtr, ↓o_geq, ↓o_not, ↓o_pick, ↓o_eqInt, ↓o_neInt, ↓o_eqBool, ↓o_neBool, ↓o_eqPtr, ↓o_nePtr, ↓o_eqPtr', ↓o_eqSl, ↓o_neSl, ↓o_eqStr, ↓o_neStr, ↓o_len, ↓o_lenS, ↓o_min, ↓o_max, ↓o_extract, ↓o_convInt, ↓cd_true, ↓cd_false, ↓gate_tt, ↓gate_ff, ↓gate_tf, ↓gate_ft, ↓gate_undef, ↓o_bind, ↓stay_v, ↓pop_cons, ↓fin_nil, Option.isNone_none, Option.isNone_some, Bool.not_true, Bool.not_false, Nat.zero_add, decide_true, decide_false, if_true, if_false, Bool.false_eq_true, ↓reduceIte]
        unfold pcells at h
        refine ld_at (b := A.q) h ?_
        refine delete_sl (b := A.pm) h fun w h => ?_
        refine k w (sat_pgr.2 ⟨rv2, ds2, cs2, ?_⟩)
        have hpn : (dropP { P with dirty := putB P.dirty n b } n).pins.Nodup := ok.pn
        rw [pinsM_del hpn] at h
        exact h.perm (by
          show _ = pts A.q (.cells (pcells (writeT P n b) A rv2).toArray 65 (0, 0)) * _
          unfold pcells writeT
          ac_rfl)
      simp only [↓o_nil, ↓o_field, ↓o_add, ↓o_sub, ↓o_mul, ↓o_lss, ↓o_leq, ↓o_gtr, ↓o_geq, ↓o_not, ↓o_pick, ↓o_eqInt, ↓o_neInt, ↓o_eqBool, ↓o_neBool, ↓o_eqPtr, ↓o_nePtr, ↓o_eqPtr', ↓o_eqSl, ↓o_neSl, ↓o_eqStr, ↓o_neStr, ↓o_len, ↓o_lenS, ↓o_min, ↓o_max, ↓o_extract, ↓o_convInt, ↓cd_true, ↓cd_false, ↓gate_tt, ↓gate_ff, ↓gate_tf, ↓gate_ft, ↓gate_undef, ↓o_bind, ↓stay_v, ↓pop_cons, ↓fin_nil, Option.isNone_none, Option.isNone_some, Bool.not_true, Bool.not_false, Nat.zero_add, decide_true, decide_false, if_true, if_false, Bool.false_eq_true, ↓reduceIte] at hgo
      by_cases hd : n ∈ P.dirty.map (·.1)
      · simp only [hd, ↓o_nil, ↓o_field, ↓o_add, ↓o_sub, ↓o_mul, ↓o_lss, ↓o_leq, ↓o_gtr, ↓o_geq, ↓o_not, ↓o_pick, ↓o_eqInt, ↓o_neInt, ↓o_eqBool, ↓o_neBool, ↓o_eqPtr, ↓o_nePtr, ↓o_eqPtr', ↓o_eqSl, ↓o_neSl, ↓o_eqStr, ↓o_neStr, ↓o_len, ↓o_lenS, ↓o_min, ↓o_max, ↓o_extract, ↓o_convInt, ↓cd_true, ↓cd_false, ↓gate_tt, ↓gate_ff, ↓gate_tf, ↓gate_ft, ↓gate_undef, ↓o_bind, ↓stay_v, ↓pop_cons, ↓fin_nil, Option.isNone_none, Option.isNone_some, Bool.not_true, Bool.not_false, Nat.zero_add, decide_true, decide_false, if_true, if_false, Bool.false_eq_true, ↓reduceIte]
        exact hgo fun e => e.1 hd
      · simp only [hd, ↓o_nil, ↓o_field, ↓o_add, ↓o_sub, ↓o_mul, ↓o_lss, ↓o_leq, ↓o_gtr, ↓o_geq, ↓o_not, ↓o_pick, ↓o_eqInt, ↓o_neInt, ↓o_eqBool, ↓o_neBool, ↓o_eqPtr, ↓o_nePtr, ↓o_eqPtr', ↓o_eqSl, ↓o_neSl, ↓o_eqStr, ↓o_neStr, ↓o_len, ↓o_lenS, ↓o_min, ↓o_max, ↓o_extract, ↓o_convInt, ↓cd_true, ↓cd_false, ↓gate_tt, ↓gate_ff, ↓gate_tf, ↓gate_ft, ↓gate_undef, ↓o_bind, ↓stay_v, ↓pop_cons, ↓fin_nil, Option.isNone_none, Option.isNone_some, Bool.not_true, Bool.not_false, Nat.zero_add, decide_true, decide_false, if_true, if_false, Bool.false_eq_true, ↓reduceIte]
        refine ld_at (b := A.q) h ?_
        refine len_ld (b := A.dm) h ?_
        rw [hrel.len]
        try simp only [↓o_nil, ↓o_field, ↓o_add, ↓o_sub, ↓o_mul, ↓o_lss, ↓o_leq, ↓o_gtr, ↓o_geq, ↓o_not, ↓o_pick, ↓o_eqInt, ↓o_neInt, ↓o_eqBool, ↓o_neBool, ↓o_eqPtr, ↓o_nePtr, ↓o_eqPtr', ↓o_eqSl, ↓o_neSl, ↓o_eqStr, ↓o_neStr, ↓o_len, ↓o_lenS, ↓o_min, ↓o_max, ↓o_extract, ↓o_convInt, ↓cd_true, ↓cd_false, ↓gate_tt, ↓gate_ff, ↓gate_tf, ↓gate_ft, ↓gate_undef, ↓o_bind, ↓stay_v, ↓pop_cons, ↓fin_nil, Option.isNone_none, Option.isNone_some, Bool.not_true, Bool.not_false, Nat.zero_add, decide_true, decide_false, if_true, if_false, Bool.false_eq_true, ↓reduceIte]
        by_cases hfull : (100 : Int) ≤ (P.dirty.length : Int)
        · simp only [hfull, ↓o_nil, ↓o_field, ↓o_add, ↓o_sub, ↓o_mul, ↓o_lss, ↓o_leq, ↓o_gtr, ↓o_geq, ↓o_not, ↓o_pick, ↓o_eqInt, ↓o_neInt, ↓o_eqBool, ↓o_neBool, ↓o_eqPtr, ↓o_nePtr, ↓o_eqPtr', ↓o_eqSl, ↓o_neSl, ↓o_eqStr, ↓o_neStr, ↓o_len, ↓o_lenS, ↓o_min, ↓o_max, ↓o_extract, ↓o_convInt, ↓cd_true, ↓cd_false, ↓gate_tt, ↓gate_ff, ↓gate_tf, ↓gate_ft, ↓gate_undef, ↓o_bind, ↓stay_v, ↓pop_cons, ↓fin_nil, Option.isNone_none, Option.isNone_some, Bool.not_true, Bool.not_false, Nat.zero_add, decide_true, decide_false, if_true, if_false, Bool.false_eq_true, ↓reduceIte]
          have he : writeE P n b = 6 := by unfold writeE; rw [if_neg (by simp [hl]), if_neg (by omega), if_pos ⟨hd, by omega⟩]
          have hw : writeP P n b = P := by unfold writeP; rw [if_neg (by rw [he]; decide)]
          rw [he, hw] at k
          exact k w hback
        · simp only [hfull, ↓o_nil, ↓o_field, ↓o_add, ↓o_sub, ↓o_mul, ↓o_lss, ↓o_leq, ↓o_gtr, ↓o_geq, ↓o_not, ↓o_pick, ↓o_eqInt, ↓o_neInt, ↓o_eqBool, ↓o_neBool, ↓o_eqPtr, ↓o_nePtr, ↓o_eqPtr', ↓o_eqSl, ↓o_neSl, ↓o_eqStr, ↓o_neStr, ↓o_len, ↓o_lenS, ↓o_min, ↓o_max, ↓o_extract, ↓o_convInt, ↓cd_true, ↓cd_false, ↓gate_tt, ↓gate_ff, ↓gate_tf, ↓gate_ft, ↓gate_undef, ↓o_bind, ↓stay_v, ↓pop_cons, ↓fin_nil, Option.isNone_none, Option.isNone_some, Bool.not_true, Bool.not_false, Nat.zero_add, decide_true, decide_false, if_true, if_false, Bool.false_eq_true, ↓reduceIte]
          exact hgo fun e => hfull (by have := e.2; omega)
    · have h256' : ¬ (b.length : Int) = 256 := by omega
      simp only [h256', ↓o_nil, ↓o_field, ↓o_add, ↓o_sub, ↓o_mul, ↓o_lss, ↓o_leq, ↓o_gtr, ↓o_geq, ↓o_not, ↓o_pick, ↓o_eqInt, ↓o_neInt, ↓o_eqBool, ↓o_neBool, ↓o_eqPtr, ↓o_nePtr, ↓o_eqPtr', ↓o_eqSl, ↓o_neSl, ↓o_eqStr, ↓o_neStr, ↓o_len, ↓o_lenS, ↓o_min, ↓o_max, ↓o_extract, ↓o_convInt, ↓cd_true, ↓cd_false, ↓gate_tt, ↓gate_ff, ↓gate_tf, ↓gate_ft, ↓gate_undef, ↓o_bind, ↓stay_v, ↓pop_cons, ↓fin_nil, Option.isNone_none, Option.isNone_some, Bool.not_true, Bool.not_false, Nat.zero_add, decide_true, decide_false, if_true, if_false, Bool.false_eq_true, ↓reduceIte]
      have he : writeE P n b = 3 := by unfold writeE; rw [if_neg (by simp [hl]), if_pos h256]
      have hw : writeP P n b = P := by unfold writeP; rw [if_neg (by rw [he]; decide)]
      rw [he, hw] at k
      exact k w hback
  · have h2 : lookE P n = 2 := by
      unfold lookE at hl ⊢
      by_cases e : n < 0 ∨ (P.S.pages : Int) ≤ n
      · rw [if_pos e]
      · rw [if_neg e] at hl; exact absurd rfl hl
    have he : writeE P n b = 2 := by unfold writeE; rw [if_pos hl]
    have hw : writeP P n b = P := by unfold writeP; rw [if_neg (by rw [he]; decide)]
    rw [he, hw] at k
    simp only [h2, ↓o_nil, ↓o_field, ↓o_add, ↓o_sub, ↓o_mul, ↓o_lss, ↓o_leq, ↓o_gtr, ↓o_geq, ↓o_not, ↓o_pick, ↓o_eqInt, ↓o_neInt, ↓o_eqBool, ↓o_neBool, ↓o_eqPtr, ↓o_nePtr, ↓o_eqPtr', ↓o_eqSl, ↓o_neSl, ↓o_eqStr, ↓o_neStr, ↓o_len, ↓o_lenS, ↓o_min, ↓o_max, ↓o_extract, ↓o_convInt, ↓cd_true, ↓cd_false, ↓gate_tt, ↓gate_ff, ↓gate_tf, ↓gate_ft, ↓gate_undef, ↓o_bind, ↓stay_v, ↓pop_cons, ↓fin_nil, Option.isNone_none, Option.isNone_some, Bool.not_true, Bool.not_false, Nat.zero_add, decide_true, decide_false, if_true, if_false, Bool.false_eq_true, ↓reduceIte, show ¬ (2 : Int) = 0 by decide]
    exact k w h
end Go.Proofs.Ytcjklbhobmkalaa

/-
  The cache: all that was written is committed, or forgotten.
-/
set_option linter.all false
set_option maxRecDepth 100000
namespace Go.Proofs.Ytcjklbhobmkalaa
open Go Hold
variable {E : World0} {w : World} {H R X : HP} {K : Value → World → Prop}
theorem erase_perm' {α : Type} {l : List α} {j : Nat} {x : α} (h : l[j]? = some x) : (x :: l.eraseIdx j).Perm l := by
  induction l generalizing j with
  | nil => simp at h
  | cons y l ih =>
    cases j with
    | zero => simp at h; subst h; exact List.Perm.refl _
    | succ j =>
      simp only [List.getElem?_cons_succ] at h
      rw [List.eraseIdx_cons_succ]
      exact (List.Perm.swap y x _).trans ((ih h).cons y)
def pgOf (D : List (Int × Bs)) (n : Int) : Int × Bs := (n, (lookB D n).getD [])
theorem pgOf_all {D : List (Int × Bs)} (hn : (D.map (·.1)).Nodup) : D.map (fun x => pgOf D x.1) = D := by
  conv => rhs; rw [← List.map_id D]
  refine List.map_congr_left fun x hx => ?_
  unfold pgOf
  rw [lookB_of hn (show (x.1, x.2) ∈ D from hx)]; rfl
theorem relM.pages {I : Hp} {ds : List (Int × Value)} {D : List (Int × Bs)} (h : relM I ds D) (hn : (D.map (·.1)).Nodup) : ds.map (fun q => pgOf D q.1) = D := by
  have h1 : ds.map (fun q => pgOf D q.1) = (ds.map (·.1)).map (pgOf D) := by rw [List.map_map]; rfl
  rw [h1, h.keys, List.map_map]
  exact pgOf_all hn
/-- The pages in a slice, in whatever order they came. -/
theorem RdP.dirty {v : Value} {qs ds : List (Int × Value)} {D : List (Int × Bs)} {Y : HP} (hn : (D.map (·.1)).Nodup) (hq : ∀ q ∈ qs, q ∈ ds) [s : Split Y (pers (immM ds D)) R] (hv : Rds Y v qs.length (wcells qs)) : RdP Y v qs (qs.map fun q => pgOf D q.1) := by
  refine ⟨by rw [List.length_map]; exact hv, by rw [List.map_map]; rfl, fun i q p h1 h2 E w hs => ?_⟩
  have hrel : relM (hp w) ds D := (hs.split (pers (immM ds D))).pers_get
  obtain ⟨b, hb, hr⟩ := hrel.mem q (hq q (List.mem_of_getElem? h1))
  rw [List.getElem?_map, h1, Option.map_some, Option.some.injEq] at h2
  subst h2
  unfold pgOf
  rw [lookB_of hn hb]
  exact hr
theorem PCommit_nil (k : K (.int .i64 1) w) : Calls prog 12 #[.pointer none] w (Ret K) := by
  refine c12 ?_
  unfold B12
  simp only [↓o_nil, ↓o_field, ↓o_add, ↓o_sub, ↓o_mul, ↓o_lss, ↓o_leq, ↓o_gtr, ↓o_geq, ↓o_not, ↓o_pick, ↓o_eqInt, ↓o_neInt, ↓o_eqBool, ↓o_neBool, ↓o_eqPtr, ↓o_nePtr, ↓o_eqPtr', ↓o_eqSl, ↓o_neSl, ↓o_eqStr, ↓o_neStr, ↓o_len, ↓o_lenS, ↓o_min, ↓o_max, ↓o_extract, ↓o_convInt, ↓cd_true, ↓cd_false, ↓gate_tt, ↓gate_ff, ↓gate_tf, ↓gate_ft, ↓gate_undef, ↓o_bind, ↓stay_v, ↓pop_cons, ↓fin_nil, Option.isNone_none, Option.isNone_some, Bool.not_true, Bool.not_false, Nat.zero_add, decide_true, decide_false, if_true, if_false, Bool.false_eq_true, ↓reduceIte]
  exact k
theorem check_W {S : Lg} {gs : List (List Int)} (i : LInv S gs) : (checkS S).W.length ≤ S.W.length + 1025 ∧ (checkS S).groups = S.groups := by
  have hf := i.few
  unfold checkS
  split
  · exact ⟨by omega, rfl⟩
  · exact ⟨by rw [(checkT_len S).2]; omega, (backP_keep (touched S) S).2.1⟩
theorem PCommit_spec {A : Ad} {P : Pg} {gs : List (List Int)} (ok : POk P gs) (h : sat E w (pgr A P * R)) (hW : P.S.W.length ≤ 890000) (hg : P.S.groups < 2 ^ 40)
    (k : ∀ w', sat E w' (pgr A (comP P) * R) → K (.int .i64 (comE P.S P.dirty)) w') : Calls prog 12 #[.pointer (some ⟨A.q, 0, none⟩)] w (Ret K) := by
  have hdl := ok.dl
  obtain ⟨rv, ds, cs, h⟩ := sat_pgr.1 h
  have hrel : relM (hp w) ds P.dirty := (h.split (pers (immM ds P.dirty))).pers_get
  have hds := hrel.len
  have hpages := hrel.pages ok.dn
  refine c12 ?_
  unfold B12
  simp only [↓o_nil, ↓o_field, ↓o_add, ↓o_sub, ↓o_mul, ↓o_lss, ↓o_leq, ↓o_gtr, ↓o_geq, ↓o_not, ↓o_pick, ↓o_eqInt, ↓o_neInt, ↓o_eqBool, ↓o_neBool, ↓o_eqPtr, ↓o_nePtr, ↓o_eqPtr', ↓o_eqSl, ↓o_neSl, ↓o_eqStr, ↓o_neStr, ↓o_len, ↓o_lenS, ↓o_min, ↓o_max, ↓o_extract, ↓o_convInt, ↓cd_true, ↓cd_false, ↓gate_tt, ↓gate_ff, ↓gate_tf, ↓gate_ft, ↓gate_undef, ↓o_bind, ↓stay_v, ↓pop_cons, ↓fin_nil, Option.isNone_none, Option.isNone_some, Bool.not_true, Bool.not_false, Nat.zero_add, decide_true, decide_false, if_true, if_false, Bool.false_eq_true, ↓reduceIte]
  unfold pcells at h
  refine ld_at (b := A.q) h ?_
  refine range_sl (b := A.dm) h fun it w h => ?_
  generalize hF : pts A.q (.cells [Value.pointer (some ⟨A.p, 0, none⟩), .int .i64 P.most, .map (some A.dm), .map (some A.cm), rv, .map (some A.pm), .int .i64 P.hits, .int .i64 P.misses].toArray 65 (0, 0)) * (omap A.cm cs * (omap A.pm (pinsM P.pins) * (osl 3 1 rv P.row.length (P.row.map iv) * (pers (immM cs P.clean) * R)))) = F
  have h : sat E w (omit_ it A.dm ds ds * (osl 77 2 (.slice none 0 0) 0 (wcells []) * (pers (immM ds P.dirty) * lgI A.p A.d A.b P.S F))) := by
    subst hF
    have h := osl_nil h 77 2
    exact h.perm (by show osl 77 2 (.slice none 0 0) 0 (wcells []) * _ = _; unfold lgI; ac_rfl)
  refine lp_nat (fun q σ w => ∃ (rest qs : List (Int × Value)) (v : Value), σ = [v] ∧ q = rest.length ∧ (qs ++ rest).Perm ds ∧ sat E w (omit_ it A.dm ds rest * (osl 77 2 v qs.length (wcells qs) * (pers (immM ds P.dirty) * lgI A.p A.d A.b P.S F)))) ds.length ⟨ds, [], _, rfl, rfl, List.Perm.refl _, h⟩ ?_
  clear h
  rintro q σ w again ⟨rest, qs, v, rfl, rfl, hp, h⟩ hag
  rw [pop_cons, fin_nil]
  have hlen := hp.length_eq
  rw [List.length_append] at hlen
  refine next_sl (i := it) (b := A.dm) (l := ds) (rest := rest) h (fun h0 => ?_) (fun j x w hj hen h => ?_)
  · subst h0
    rw [o_extract, cd_false]
    rw [List.append_nil] at hp
    have h := omit_close h
    have hmem : ∀ q ∈ qs, q ∈ ds := fun q hq => hp.mem_iff.1 hq
    have hps : (qs.map fun q => pgOf P.dirty q.1).Perm P.dirty := by
      have := hp.map (fun q : Int × Value => pgOf P.dirty q.1)
      rw [hpages] at this
      exact this
    subst hF
    unfold lgI at h
    try simp only [↓o_nil, ↓o_field, ↓o_add, ↓o_sub, ↓o_mul, ↓o_lss, ↓o_leq, ↓o_gtr, ↓o_geq, ↓o_not, ↓o_pick, ↓o_eqInt, ↓o_neInt, ↓o_eqBool, ↓o_neBool, ↓o_eqPtr, ↓o_nePtr, ↓o_eqPtr', ↓o_eqSl, ↓o_neSl, ↓o_eqStr, ↓o_neStr, ↓o_len, ↓o_lenS, ↓o_min, ↓o_max, ↓o_extract, ↓o_convInt, ↓cd_true, ↓cd_false, ↓gate_tt, ↓gate_ff, ↓gate_tf, ↓gate_ft, ↓gate_undef, ↓o_bind, ↓stay_v, ↓pop_cons, ↓fin_nil, Option.isNone_none, Option.isNone_some, Bool.not_true, Bool.not_false, Nat.zero_add, decide_true, decide_false, if_true, if_false, Bool.false_eq_true, ↓reduceIte]
    refine ld_at (b := A.q) h ?_
    generalize hY : osl 77 2 v qs.length (wcells qs) * (omap A.dm ds * (pers (immM ds P.dirty) * (pts A.q (.cells [Value.pointer (some ⟨A.p, 0, none⟩), .int .i64 P.most, .map (some A.dm), .map (some A.cm), rv, .map (some A.pm), .int .i64 P.hits, .int .i64 P.misses].toArray 65 (0, 0)) * (omap A.cm cs * (omap A.pm (pinsM P.pins) * (osl 3 1 rv P.row.length (P.row.map iv) * (pers (immM cs P.clean) * R))))))) = Y
    have h : sat E w (lgI A.p A.d A.b P.S Y) := by
      subst hY
      unfold lgI
      exact h.perm (by ac_rfl)
    have hrdp : RdP Y v qs (qs.map fun q => pgOf P.dirty q.1) := by
      subst hY
      exact RdP.dirty (ds := ds) ok.dn hmem Rds.osl.left
    have he := err_perm (S := P.S) hps
    have hc := commit_perm (S := P.S) hps
    refine Commit_spec ok.i h hrdp (by omega) hg fun w h => ?_
    rw [he]
    rw [hc] at h
    refine jn_cut (fun σ w => σ = [.int .i64 (comE P.S P.dirty)] ∧ sat E w (lgI A.p A.d A.b (comS P.S P.dirty) Y)) ?_ ?_
    · intro kk hk
      have hld : ∀ {S : Lg} {w : World} {K' : Value → World → Prop}, sat E w (lgI A.p A.d A.b S Y) → K' (.pointer (some ⟨A.p, 0, none⟩)) w → ldv prog (Instr.loadAt 27 (.pointer (some ⟨A.q, 0, none⟩))) w K' := fun {S w K'} h hk' => by
        clear hk
        subst hY
        unfold lgI at h
        exact ld_at (b := A.q) h hk'
      by_cases h7 : errC P.S P.dirty = 7
      · simp only [h7, ↓o_nil, ↓o_field, ↓o_add, ↓o_sub, ↓o_mul, ↓o_lss, ↓o_leq, ↓o_gtr, ↓o_geq, ↓o_not, ↓o_pick, ↓o_eqInt, ↓o_neInt, ↓o_eqBool, ↓o_neBool, ↓o_eqPtr, ↓o_nePtr, ↓o_eqPtr', ↓o_eqSl, ↓o_neSl, ↓o_eqStr, ↓o_neStr, ↓o_len, ↓o_lenS, ↓o_min, ↓o_max, ↓o_extract, ↓o_convInt, ↓cd_true, ↓cd_false, ↓gate_tt, ↓gate_ff, ↓gate_tf, ↓gate_ft, ↓gate_undef, ↓o_bind, ↓stay_v, ↓pop_cons, ↓fin_nil, Option.isNone_none, Option.isNone_some, Bool.not_true, Bool.not_false, Nat.zero_add, decide_true, decide_false, if_true, if_false, Bool.false_eq_true, ↓reduceIte]
        have hcs : commitS P.S P.dirty = P.S := by unfold commitS; rw [if_neg (fun e => by rw [h7] at e; exact absurd e.1 (by decide))]
        rw [hcs] at h
        refine hld h ?_
        refine Check_spec ok.i h (by omega) fun w h => ?_
        try simp only [↓o_nil, ↓o_field, ↓o_add, ↓o_sub, ↓o_mul, ↓o_lss, ↓o_leq, ↓o_gtr, ↓o_geq, ↓o_not, ↓o_pick, ↓o_eqInt, ↓o_neInt, ↓o_eqBool, ↓o_neBool, ↓o_eqPtr, ↓o_nePtr, ↓o_eqPtr', ↓o_eqSl, ↓o_neSl, ↓o_eqStr, ↓o_neStr, ↓o_len, ↓o_lenS, ↓o_min, ↓o_max, ↓o_extract, ↓o_convInt, ↓cd_true, ↓cd_false, ↓gate_tt, ↓gate_ff, ↓gate_tf, ↓gate_ft, ↓gate_undef, ↓o_bind, ↓stay_v, ↓pop_cons, ↓fin_nil, Option.isNone_none, Option.isNone_some, Bool.not_true, Bool.not_false, Nat.zero_add, decide_true, decide_false, if_true, if_false, Bool.false_eq_true, ↓reduceIte]
        refine hld h ?_
        obtain ⟨gs', i'⟩ := ok.i.checkS
        have hcw := check_W ok.i
        refine Commit_spec i' h hrdp (by omega) (by omega) fun w h => ?_
        rw [err_perm hps]
        rw [commit_perm hps] at h
        refine hk _ _ ⟨?_, ?_⟩
        · unfold comE; rw [if_pos h7]
        · unfold comS; rw [if_pos h7]; exact h
      · simp only [h7, ↓o_nil, ↓o_field, ↓o_add, ↓o_sub, ↓o_mul, ↓o_lss, ↓o_leq, ↓o_gtr, ↓o_geq, ↓o_not, ↓o_pick, ↓o_eqInt, ↓o_neInt, ↓o_eqBool, ↓o_neBool, ↓o_eqPtr, ↓o_nePtr, ↓o_eqPtr', ↓o_eqSl, ↓o_neSl, ↓o_eqStr, ↓o_neStr, ↓o_len, ↓o_lenS, ↓o_min, ↓o_max, ↓o_extract, ↓o_convInt, ↓cd_true, ↓cd_false, ↓gate_tt, ↓gate_ff, ↓gate_tf, ↓gate_ft, ↓gate_undef, ↓o_bind, ↓stay_v, ↓pop_cons, ↓fin_nil, Option.isNone_none, Option.isNone_some, Bool.not_true, Bool.not_false, Nat.zero_add, decide_true, decide_false, if_true, if_false, Bool.false_eq_true, ↓reduceIte]
        refine hk _ _ ⟨?_, ?_⟩
        · unfold comE; rw [if_neg h7]
        · unfold comS; rw [if_neg h7]; exact h
    · rintro σ w ⟨rfl, h⟩
      rw [pop_cons, fin_nil]
      have hfin : ∀ (ds' : List (Int × Value)) (w : World), (sat E w (lgI A.p A.d A.b (comS P.S P.dirty) (osl 77 2 v qs.length (wcells qs) * (omap A.dm ds' * (pers (immM ds' (comP P).dirty) * (pts A.q (.cells [Value.pointer (some ⟨A.p, 0, none⟩), .int .i64 P.most, .map (some A.dm), .map (some A.cm), rv, .map (some A.pm), .int .i64 P.hits, .int .i64 P.misses].toArray 65 (0, 0)) * (omap A.cm cs * (omap A.pm (pinsM P.pins) * (osl 3 1 rv P.row.length (P.row.map iv) * (pers (immM cs P.clean) * R)))))))))) → K (.int .i64 (comE P.S P.dirty)) w := fun ds' w h => by
        refine k w (sat_pgr.2 ⟨rv, ds', cs, ?_⟩)
        have h := h.perm (show _ = osl 77 2 v qs.length (wcells qs) * (pts A.q (.cells (pcells (comP P) A rv).toArray 65 (0, 0)) * (omap A.dm ds' * (omap A.cm cs * (omap A.pm (pinsM P.pins) * (osl 3 1 rv P.row.length (P.row.map iv) * (pers (immM ds' (comP P).dirty) * (pers (immM cs P.clean) * lgI A.p A.d A.b (comS P.S P.dirty) R))))))) by
          show _ = osl 77 2 v qs.length (wcells qs) * (pts A.q (.cells [Value.pointer (some ⟨A.p, 0, none⟩), .int .i64 P.most, .map (some A.dm), .map (some A.cm), rv, .map (some A.pm), .int .i64 P.hits, .int .i64 P.misses].toArray 65 (0, 0)) * _)
          unfold lgI
          ac_rfl)
        exact h.drop
      refine jn_cut (fun σ w => σ = [] ∧ K (.int .i64 (comE P.S P.dirty)) w) ?_ ?_
      · intro kk hk
        subst hY
        by_cases h0 : comE P.S P.dirty = 0
        · have hd : (comP P).dirty = [] := by unfold comP; simp only; rw [if_pos h0]
          simp only [h0, ↓o_nil, ↓o_field, ↓o_add, ↓o_sub, ↓o_mul, ↓o_lss, ↓o_leq, ↓o_gtr, ↓o_geq, ↓o_not, ↓o_pick, ↓o_eqInt, ↓o_neInt, ↓o_eqBool, ↓o_neBool, ↓o_eqPtr, ↓o_nePtr, ↓o_eqPtr', ↓o_eqSl, ↓o_neSl, ↓o_eqStr, ↓o_neStr, ↓o_len, ↓o_lenS, ↓o_min, ↓o_max, ↓o_extract, ↓o_convInt, ↓cd_true, ↓cd_false, ↓gate_tt, ↓gate_ff, ↓gate_tf, ↓gate_ft, ↓gate_undef, ↓o_bind, ↓stay_v, ↓pop_cons, ↓fin_nil, Option.isNone_none, Option.isNone_some, Bool.not_true, Bool.not_false, Nat.zero_add, decide_true, decide_false, if_true, if_false, Bool.false_eq_true, ↓reduceIte]
          unfold lgI at h
          refine ld_at (b := A.q) h ?_
          refine clear_sl (b := A.dm) h fun w h => ?_
          refine hk _ _ ⟨rfl, hfin [] w ?_⟩
          rw [hd]
          have h := h.perm (show _ = pers (immM ds P.dirty) * (pts A.p (.cells (lcells (comS P.S P.dirty) A.d A.b).toArray 58 (0, 0)) * (dsk A.d (comS P.S P.dirty).L (comS P.S P.dirty).W * (omap A.b (mpA (comS P.S P.dirty).a) * (osl 77 2 v qs.length (wcells qs) * (omap A.dm [] * (pts A.q (.cells [Value.pointer (some ⟨A.p, 0, none⟩), .int .i64 P.most, .map (some A.dm), .map (some A.cm), rv, .map (some A.pm), .int .i64 P.hits, .int .i64 P.misses].toArray 65 (0, 0)) * (omap A.cm cs * (omap A.pm (pinsM P.pins) * (osl 3 1 rv P.row.length (P.row.map iv) * (pers (immM cs P.clean) * R)))))))))) by ac_rfl)
          have h := h.pers_mono (ψ := immM [] []) fun I _ => trivial
          unfold lgI
          exact h.perm (by ac_rfl)
        · have hd : (comP P).dirty = P.dirty := by unfold comP; simp only; rw [if_neg h0]
          simp only [h0, ↓o_nil, ↓o_field, ↓o_add, ↓o_sub, ↓o_mul, ↓o_lss, ↓o_leq, ↓o_gtr, ↓o_geq, ↓o_not, ↓o_pick, ↓o_eqInt, ↓o_neInt, ↓o_eqBool, ↓o_neBool, ↓o_eqPtr, ↓o_nePtr, ↓o_eqPtr', ↓o_eqSl, ↓o_neSl, ↓o_eqStr, ↓o_neStr, ↓o_len, ↓o_lenS, ↓o_min, ↓o_max, ↓o_extract, ↓o_convInt, ↓cd_true, ↓cd_false, ↓gate_tt, ↓gate_ff, ↓gate_tf, ↓gate_ft, ↓gate_undef, ↓o_bind, ↓stay_v, ↓pop_cons, ↓fin_nil, Option.isNone_none, Option.isNone_some, Bool.not_true, Bool.not_false, Nat.zero_add, decide_true, decide_false, if_true, if_false, Bool.false_eq_true, ↓reduceIte]
          refine hk _ _ ⟨rfl, hfin ds w ?_⟩
          rw [hd]
          exact h
      · rintro σ w ⟨rfl, hk⟩
        rw [fin_nil]
        exact hk
  · rw [o_extract, cd_true]
    refine efv_of hen ?_
    rw [o_extract, o_extract]
    have hlt := (List.getElem?_eq_some_iff.1 hj).1
    have hx : x ∈ ds := hp.mem_iff.1 (List.mem_append_right _ (List.mem_of_getElem? hj))
    obtain ⟨ax, nx, cx, hxv⟩ : ∃ ax nx cx, x.2 = .slice ax nx cx := by
      have hrel : relM (Hold.hp w) ds P.dirty := (h.split (pers (immM ds P.dirty))).pers_get
      obtain ⟨b, _, a, c, e, _⟩ := hrel.mem x hx
      exact ⟨a, b.length, c, e⟩
    rw [hxv]
    refine pvv_of (v := .agg #[.int .i64 x.1, .slice ax nx cx]) (fun _ => by kernel_rfl) ?_
    refine buildSlice_sl (e := 77) (cs := #[.int .i64 x.1, .slice ax nx cx]) h (fun w => by kernel_rfl) fun b2 w h => ?_
    have h := h.owns v
    refine append_sl h [.int .i64 x.1, .slice ax nx cx] rfl (.inr ⟨b2, 0, _, 77, (0, 0), rfl, h.drop.pts_get, fun j u hj => by simpa using hj⟩) (by simp [Value.oneCell']) (by omega) (by omega) fun v2 w h => ?_
    have e1 : wcells (qs ++ [x]) = wcells qs ++ [.int .i64 x.1, .slice ax nx cx] := by rw [← hxv]; exact wcells_snoc qs _ _
    refine hag (rest.eraseIdx j).length _ _ (by rw [List.length_eraseIdx, if_pos hlt]; omega) ⟨rest.eraseIdx j, qs ++ [x], v2, rfl, rfl, ?_, ?_⟩
    · refine List.Perm.trans ?_ hp
      rw [List.append_assoc]
      exact List.Perm.append_left qs (erase_perm' hj)
    · rw [e1, List.length_append]
      have h := h.perm (show _ = pts b2 (.cells #[.int .i64 x.1, .slice ax nx cx] 77 (0, 0)) * (omit_ it A.dm ds (rest.eraseIdx j) * (osl 77 2 v2 (qs.length + 1) (wcells qs ++ [.int .i64 x.1, .slice ax nx cx]) * (pers (immM ds P.dirty) * lgI A.p A.d A.b P.S F))) by ac_rfl)
      exact h.drop
/-- What is asked of its log. -/
theorem pgr_log {A : Ad} {P : Pg} (h : sat E w (pgr A P * R)) : ∃ Y : HP, sat E w (lgI A.p A.d A.b P.S (Y * R)) ∧ (∀ {R' : HP} {w' : World}, sat E w' (lgI A.p A.d A.b P.S (Y * R')) → sat E w' (pgr A P * R')) := by
  obtain ⟨rv, ds, cs, h⟩ := sat_pgr.1 h
  refine ⟨pts A.q (.cells (pcells P A rv).toArray 65 (0, 0)) * (omap A.dm ds * (omap A.cm cs * (omap A.pm (pinsM P.pins) * (osl 3 1 rv P.row.length (P.row.map iv) * (pers (immM ds P.dirty) * pers (immM cs P.clean)))))), ?_, fun {R' w'} h' => sat_pgr.2 ⟨rv, ds, cs, ?_⟩⟩
  · unfold lgI at h ⊢
    exact h.perm (by ac_rfl)
  · unfold lgI at h' ⊢
    exact h'.perm (by ac_rfl)
theorem PDisk_spec {A : Ad} {P : Pg} (h : sat E w (pgr A P * R)) (hL : P.S.L.length ≤ 1024) (hW : P.S.W.length ≤ 1000000)
    (k : ∀ f w', sat E w' (dsk f P.S.L P.S.W * (pgr A P * R)) → K (.pointer (some ⟨f, 0, none⟩)) w') : Calls prog 8 #[.pointer (some ⟨A.p, 0, none⟩)] w (Ret K) := by
  obtain ⟨Y, h, hb⟩ := pgr_log h
  refine Disk_spec h hL hW fun f w h => k f w ?_
  have h : sat E w (lgI A.p A.d A.b P.S (Y * (dsk f P.S.L P.S.W * R))) := by
    unfold lgI at h ⊢
    exact h.perm (by ac_rfl)
  exact (hb h).perm (star_left_comm _ _ _)
end Go.Proofs.Ytcjklbhobmkalaa

/-
  A log: how much of it is used, and its groups' number.
-/
set_option linter.all false
set_option maxRecDepth 100000
namespace Go.Proofs.Ytcjklbhobmkalaa
open Go Hold
variable {E : World0} {w : World} {H R X : HP} {K : Value → World → Prop}
end Go.Proofs.Ytcjklbhobmkalaa

/-
  Groups that fit are taken. No program in sight.
-/
set_option linter.all false
set_option maxRecDepth 100000
namespace Go.Proofs.Ytcjklbhobmkalaa
open Go Hold
theorem errC_fit {S : Lg} {ps : List (Int × Bs)} (h1 : 1 ≤ ps.length) (h2 : ps.length ≤ 100) (hr : ∀ p ∈ ps, 0 ≤ p.1 ∧ p.1 < S.pages) (hf : FormP ps) : errC S ps = if S.size - S.used < ps.length + 1 then 7 else 0 := by
  unfold errC
  have ha : ps.any (rangeP S) = false := by
    rw [List.any_eq_false]
    intro p hp
    have := hr p hp
    unfold rangeP
    simp only [Bool.or_eq_true, decide_eq_true_eq]
    omega
  rw [if_neg (by omega), if_neg (by omega), if_neg (by simp [ha]), if_neg (by simpa using hf)]
structure ComOk (S : Lg) (ps : List (Int × Bs)) : Prop where
  e : comE S ps = 0
  g : (comS S ps).groups = S.groups + 1
  w1 : S.W.length + ps.length + 2 ≤ (comS S ps).W.length
  w2 : (comS S ps).W.length ≤ S.W.length + ps.length + 1027
  l : (comS S ps).L.length = S.L.length
theorem com_ok {S : Lg} {gs : List (List Int)} (i : LInv S gs) {ps : List (Int × Bs)} (h1 : 1 ≤ ps.length) (h2 : ps.length ≤ 100) (hr : ∀ p ∈ ps, 0 ≤ p.1 ∧ p.1 < S.pages) (hf : FormP ps) (hs : ps.length + 1 ≤ S.size) : ComOk S ps := by
  have hfew := i.few
  have hne : ps ≠ [] := fun e => by rw [e] at h1; simp at h1
  by_cases hfit : S.size - S.used < ps.length + 1
  · have e7 : errC S ps = 7 := by rw [errC_fit h1 h2 hr hf, if_pos hfit]
    have e0 : errC (checkS S) ps = 0 := by
      rw [errC_fit h1 h2 (by rw [check_pages]; exact hr) hf, check_used0, check_size, if_neg (by omega)]
    have hc : commitS (checkS S) ps = commitT (checkS S) ps := by unfold commitS; rw [if_pos ⟨e0, hne⟩]
    have hu : S.used ≠ 0 := fun e => by omega
    have hk : checkS S = checkT S := by unfold checkS; rw [if_neg hu]
    have hW := (checkT_len S).2
    have hL := (checkT_len S).1
    refine ⟨by unfold comE; rw [if_pos e7]; exact e0, ?_, ?_, ?_, ?_⟩ <;> unfold comS <;> rw [if_pos e7, hc]
    · rw [commitT_groups, hk]
      have : (checkT S).groups = S.groups := (backP_keep (touched S) S).2.1
      rw [this]
    · rw [(commitT_len _ _).2, hk, hW]; omega
    · rw [(commitT_len _ _).2, hk, hW]; omega
    · rw [(commitT_len _ _).1, hk, hL]
  · have e0 : errC S ps = 0 := by rw [errC_fit h1 h2 hr hf, if_neg hfit]
    have hc : commitS S ps = commitT S ps := by unfold commitS; rw [if_pos ⟨e0, hne⟩]
    have hn7 : ¬ errC S ps = 7 := by rw [e0]; decide
    refine ⟨by unfold comE; rw [if_neg hn7]; exact e0, ?_, ?_, ?_, ?_⟩ <;> unfold comS <;> rw [if_neg hn7, hc]
    · rfl
    · rw [(commitT_len _ _).2]
      exact Nat.le_refl _
    · rw [(commitT_len _ _).2]; omega
    · rw [(commitT_len _ _).1]
theorem com_nil (S : Lg) : comS S [] = S ∧ comE S [] = 0 := by
  have : errC S [] = 0 := rfl
  unfold comS comE commitS
  rw [this]
  exact ⟨rfl, rfl⟩
end Go.Proofs.Ytcjklbhobmkalaa

/-
  A cache's log: how much of it is used, and its groups' number.
-/
set_option linter.all false
set_option maxRecDepth 100000
namespace Go.Proofs.Ytcjklbhobmkalaa
open Go Hold
variable {E : World0} {w : World} {H R X : HP} {K : Value → World → Prop}
end Go.Proofs.Ytcjklbhobmkalaa

/-
  The cache: its log; what was written.
-/
set_option linter.all false
set_option maxRecDepth 100000
namespace Go.Proofs.Ytcjklbhobmkalaa
open Go Hold
variable {E : World0} {w : World} {H R X : HP} {K : Value → World → Prop}
/-- Its log. -/
theorem Log_spec {A : Ad} {P : Pg} (h : sat E w (pgr A P * R)) (k : K (.pointer (some ⟨A.p, 0, none⟩)) w) : Calls prog 7 #[.pointer (some ⟨A.q, 0, none⟩)] w (Ret K) := by
  obtain ⟨rv, ds, cs, h⟩ := sat_pgr.1 h
  refine c7 ?_
  unfold B7
  simp only [↓o_nil, ↓o_field, ↓o_add, ↓o_sub, ↓o_mul, ↓o_lss, ↓o_leq, ↓o_gtr, ↓o_geq, ↓o_not, ↓o_pick, ↓o_eqInt, ↓o_neInt, ↓o_eqBool, ↓o_neBool, ↓o_eqPtr, ↓o_nePtr, ↓o_eqPtr', ↓o_eqSl, ↓o_neSl, ↓o_eqStr, ↓o_neStr, ↓o_len, ↓o_lenS, ↓o_min, ↓o_max, ↓o_extract, ↓o_convInt, ↓cd_true, ↓cd_false, ↓gate_tt, ↓gate_ff, ↓gate_tf, ↓gate_ft, ↓gate_undef, ↓o_bind, ↓stay_v, ↓pop_cons, ↓fin_nil, Option.isNone_none, Option.isNone_some, Bool.not_true, Bool.not_false, Nat.zero_add, decide_true, decide_false, if_true, if_false, Bool.false_eq_true, ↓reduceIte]
  unfold pcells at h
  exact ld_at (b := A.q) h k
/-- The numbers of the pages that were written. -/
def dirtyN (P : Pg) : List Int := sortI (P.dirty.map (·.1))
theorem Dirty_spec {A : Ad} {P : Pg} {gs : List (List Int)} (ok : POk P gs) (h : sat E w (pgr A P * R)) (k : ∀ u w', sat E w' (osl 3 1 u P.dirty.length ((dirtyN P).map iv) * (pgr A P * R)) → K u w') : Calls prog 11 #[.pointer (some ⟨A.q, 0, none⟩)] w (Ret K) := by
  have hdl := ok.dl
  obtain ⟨rv, ds, cs, h⟩ := sat_pgr.1 h
  have hrel : relM (hp w) ds P.dirty := (h.split (pers (immM ds P.dirty))).pers_get
  have hds := hrel.len; have hkeys := hrel.keys
  refine c11 ?_
  unfold B11
  simp only [↓o_nil, ↓o_field, ↓o_add, ↓o_sub, ↓o_mul, ↓o_lss, ↓o_leq, ↓o_gtr, ↓o_geq, ↓o_not, ↓o_pick, ↓o_eqInt, ↓o_neInt, ↓o_eqBool, ↓o_neBool, ↓o_eqPtr, ↓o_nePtr, ↓o_eqPtr', ↓o_eqSl, ↓o_neSl, ↓o_eqStr, ↓o_neStr, ↓o_len, ↓o_lenS, ↓o_min, ↓o_max, ↓o_extract, ↓o_convInt, ↓cd_true, ↓cd_false, ↓gate_tt, ↓gate_ff, ↓gate_tf, ↓gate_ft, ↓gate_undef, ↓o_bind, ↓stay_v, ↓pop_cons, ↓fin_nil, Option.isNone_none, Option.isNone_some, Bool.not_true, Bool.not_false, Nat.zero_add, decide_true, decide_false, if_true, if_false, Bool.false_eq_true, ↓reduceIte]
  unfold pcells at h
  refine ld_at (b := A.q) h ?_
  refine KU.SortedKeys_spec (b := A.dm) (by omega) (h.ownm A.dm) fun u ss w hp hs h => ?_
  rw [hkeys] at hp
  have e : ss = dirtyN P := sortI_of hp hs
  subst e
  have hl : (dirtyN P).length = P.dirty.length := by unfold dirtyN; rw [sortI_length, List.length_map]
  rw [hl] at h
  refine k u w ?_
  have h := h.perm (show _ = pts A.q (.cells (pcells P A rv).toArray 65 (0, 0)) * (omap A.dm ds * (omap A.cm cs * (omap A.pm (pinsM P.pins) * (osl 3 1 rv P.row.length (P.row.map iv) * (pers (immM ds P.dirty) * (pers (immM cs P.clean) * lgI A.p A.d A.b P.S (osl 3 1 u P.dirty.length ((dirtyN P).map iv) * R))))))) by unfold pcells lgI; ac_rfl)
  exact (sat_pgr.2 ⟨rv, ds, cs, h⟩).perm (by ac_rfl)
end Go.Proofs.Ytcjklbhobmkalaa

/-
  The cache: a page is used, is read.
-/
set_option linter.all false
set_option maxRecDepth 100000
namespace Go.Proofs.Ytcjklbhobmkalaa
open Go Hold
variable {E : World0} {w : World} {H R X : HP} {K : Value → World → Prop}
theorem dropP_row {P : Pg} {n : Int} : (dropP P n).row.length ≤ P.row.length := List.length_filter_le _ _
theorem unpinned_spec (h : sat E w H) {pb q pm : Nat} {cs : List Value} {x : Int} {l : List Int} [s1 : Has H pb (.cells [Value.pointer (some ⟨q, 0, none⟩)].toArray 30 (0, 0))] [s2 : Has H q (.cells cs.toArray 65 (0, 0))] (hc : cs[5]? = some (.map (some pm))) [s3 : OwnM H pm (pinsM l) R]
    (k : K (.bool !decide (x ∈ l)) w) : ef prog (oCall (.func (.func 60) #[] #[.pointer (some ⟨pb, 0, none⟩)]) #[.int .i64 x]) w K := by
  refine oCall_body Try.func60 (by kernel_rfl) (by kernel_rfl) ?_
  refine c60 ?_
  unfold B60
  refine ld_at (b := pb) h ?_
  simp only [↓o_nil, ↓o_field, ↓o_add, ↓o_sub, ↓o_mul, ↓o_lss, ↓o_leq, ↓o_gtr, ↓o_geq, ↓o_not, ↓o_pick, ↓o_eqInt, ↓o_neInt, ↓o_eqBool, ↓o_neBool, ↓o_eqPtr, ↓o_nePtr, ↓o_eqPtr', ↓o_eqSl, ↓o_neSl, ↓o_eqStr, ↓o_neStr, ↓o_len, ↓o_lenS, ↓o_min, ↓o_max, ↓o_extract, ↓o_convInt, ↓cd_true, ↓cd_false, ↓gate_tt, ↓gate_ff, ↓gate_tf, ↓gate_ft, ↓gate_undef, ↓o_bind, ↓stay_v, ↓pop_cons, ↓fin_nil, Option.isNone_none, Option.isNone_some, Bool.not_true, Bool.not_false, Nat.zero_add, decide_true, decide_false, if_true, if_false, Bool.false_eq_true, ↓reduceIte]
  refine ld_in (b := q) h hc ?_
  refine look1_ld (b := pm) h ?_
  rw [pinsM_look]
  by_cases e : x ∈ l
  · rw [if_pos e, Option.getD_some]
    simp only [↓o_nil, ↓o_field, ↓o_add, ↓o_sub, ↓o_mul, ↓o_lss, ↓o_leq, ↓o_gtr, ↓o_geq, ↓o_not, ↓o_pick, ↓o_eqInt, ↓o_neInt, ↓o_eqBool, ↓o_neBool, ↓o_eqPtr, ↓o_nePtr, ↓o_eqPtr', ↓o_eqSl, ↓o_neSl, ↓o_eqStr, ↓o_neStr, ↓o_len, ↓o_lenS, ↓o_min, ↓o_max, ↓o_extract, ↓o_convInt, ↓cd_true, ↓cd_false, ↓gate_tt, ↓gate_ff, ↓gate_tf, ↓gate_ft, ↓gate_undef, ↓o_bind, ↓stay_v, ↓pop_cons, ↓fin_nil, Option.isNone_none, Option.isNone_some, Bool.not_true, Bool.not_false, Nat.zero_add, decide_true, decide_false, if_true, if_false, Bool.false_eq_true, ↓reduceIte]
    rw [decide_eq_true e] at k
    exact k
  · rw [if_neg e, Option.getD_none]
    simp only [↓o_nil, ↓o_field, ↓o_add, ↓o_sub, ↓o_mul, ↓o_lss, ↓o_leq, ↓o_gtr, ↓o_geq, ↓o_not, ↓o_pick, ↓o_eqInt, ↓o_neInt, ↓o_eqBool, ↓o_neBool, ↓o_eqPtr, ↓o_nePtr, ↓o_eqPtr', ↓o_eqSl, ↓o_neSl, ↓o_eqStr, ↓o_neStr, ↓o_len, ↓o_lenS, ↓o_min, ↓o_max, ↓o_extract, ↓o_convInt, ↓cd_true, ↓cd_false, ↓gate_tt, ↓gate_ff, ↓gate_tf, ↓gate_ft, ↓gate_undef, ↓o_bind, ↓stay_v, ↓pop_cons, ↓fin_nil, Option.isNone_none, Option.isNone_some, Bool.not_true, Bool.not_false, Nat.zero_add, decide_true, decide_false, if_true, if_false, Bool.false_eq_true, ↓reduceIte]
    rw [decide_eq_false e] at k
    exact k
theorem useP_none {P : Pg} {n : Int} (hf : P.most < (use2 P n).row.length) (h : ((use2 P n).row.find? fun k => !decide (k ∈ P.pins)) = none) : useP P n = use2 P n := by
  unfold useP; rw [if_pos hf, h]
theorem useP_some {P : Pg} {n k : Int} (hf : P.most < (use2 P n).row.length) (h : ((use2 P n).row.find? fun k => !decide (k ∈ P.pins)) = some k) : useP P n = dropP (use2 P n) k := by
  unfold useP; rw [if_pos hf, h]
theorem find_take {l : List Int} {p : Int → Bool} : ∀ {i : Nat} (hi : i < l.length), p l[i] = true → (∀ x ∈ l.take i, p x = false) → l.find? p = some l[i] := by
  induction l with
  | nil => intro i hi; simp at hi
  | cons y l ih =>
    intro i hi h1 h2
    rw [List.find?_cons]
    cases i with
    | zero => simp only [List.getElem_cons_zero] at h1 ⊢; rw [h1]
    | succ i =>
      have hy := h2 y (by simp)
      rw [hy]
      simp only [List.getElem_cons_succ] at h1 ⊢
      exact ih (by simpa using hi) h1 fun x hx => h2 x (by rw [List.take_succ_cons]; exact List.mem_cons_of_mem _ hx)
theorem use_spec {A : Ad} {P : Pg} {gs : List (List Int)} (ok : POk P gs) (h : sat E w (pgr A P * R)) {n : Nat} (hn : n < P.S.pages) (hh : P.hits ≤ 1000000) (hmi : P.misses ≤ 1000000)
    (k : ∀ v w', sat E w' (osl 5 1 v 256 ((useB P n).map bv) * (pgr A (useP P n) * R)) → K v w') : Calls prog 34 #[.pointer (some ⟨A.q, 0, none⟩), .int .i64 n] w (Ret K) := by
  have hrl := ok.rl; have hm2 := ok.m2; have hsz := ok.i.sz; have hle := ok.i.wf.le
  have hb256 : (useB P n).length = 256 := by
    rw [ok.useB (by omega), Int.toNat_natCast]
    unfold Lg.view
    rw [getD_of (ok.i.place_lt hn)]
    exact ok.i.wf.l _ (List.getElem_mem _)
  refine c34 ?_
  unfold B34
  refine box_sl h fun pb w h => ?_
  have h : sat E w (pts pb (.cells [Value.pointer (some ⟨A.q, 0, none⟩)].toArray 30 (0, 0)) * (pgr A P * R)) := h
  have hswap : ∀ {Q : Pg} {w : World}, sat E w (pts pb (.cells [Value.pointer (some ⟨A.q, 0, none⟩)].toArray 30 (0, 0)) * (pgr A Q * R)) ↔ sat E w (pgr A Q * (pts pb (.cells [Value.pointer (some ⟨A.q, 0, none⟩)].toArray 30 (0, 0)) * R)) := fun {Q w} => ⟨fun h => h.perm (star_left_comm _ _ _), fun h => h.perm (star_left_comm _ _ _)⟩
  refine ld_at (b := pb) h ?_
  simp only [↓o_nil, ↓o_field, ↓o_add, ↓o_sub, ↓o_mul, ↓o_lss, ↓o_leq, ↓o_gtr, ↓o_geq, ↓o_not, ↓o_pick, ↓o_eqInt, ↓o_neInt, ↓o_eqBool, ↓o_neBool, ↓o_eqPtr, ↓o_nePtr, ↓o_eqPtr', ↓o_eqSl, ↓o_neSl, ↓o_eqStr, ↓o_neStr, ↓o_len, ↓o_lenS, ↓o_min, ↓o_max, ↓o_extract, ↓o_convInt, ↓cd_true, ↓cd_false, ↓gate_tt, ↓gate_ff, ↓gate_tf, ↓gate_ft, ↓gate_undef, ↓o_bind, ↓stay_v, ↓pop_cons, ↓fin_nil, Option.isNone_none, Option.isNone_some, Bool.not_true, Bool.not_false, Nat.zero_add, decide_true, decide_false, if_true, if_false, Bool.false_eq_true, ↓reduceIte]
  obtain ⟨rv, ds, cs, h⟩ := sat_pgr.1 (hswap.1 h)
  have hrel : relM (hp w) cs P.clean := (h.split (pers (immM cs P.clean))).pers_get
  unfold pcells at h
  refine ld_at (b := A.q) h ?_
  refine look_d (b := A.cm) h ?_
  try simp only [↓o_nil, ↓o_field, ↓o_add, ↓o_sub, ↓o_mul, ↓o_lss, ↓o_leq, ↓o_gtr, ↓o_geq, ↓o_not, ↓o_pick, ↓o_eqInt, ↓o_neInt, ↓o_eqBool, ↓o_neBool, ↓o_eqPtr, ↓o_nePtr, ↓o_eqPtr', ↓o_eqSl, ↓o_neSl, ↓o_eqStr, ↓o_neStr, ↓o_len, ↓o_lenS, ↓o_min, ↓o_max, ↓o_extract, ↓o_convInt, ↓cd_true, ↓cd_false, ↓gate_tt, ↓gate_ff, ↓gate_tf, ↓gate_ft, ↓gate_undef, ↓o_bind, ↓stay_v, ↓pop_cons, ↓fin_nil, Option.isNone_none, Option.isNone_some, Bool.not_true, Bool.not_false, Nat.zero_add, decide_true, decide_false, if_true, if_false, Bool.false_eq_true, ↓reduceIte]
  -- its bytes, and the count of hits or misses
  refine jn_cut (fun σ w => ∃ v, σ = [v] ∧ sat E w (pers (immS v 256 ((useB P n).map bv)) * (pts pb (.cells [Value.pointer (some ⟨A.q, 0, none⟩)].toArray 30 (0, 0)) * (pgr A (use1 P n) * R)))) ?_ ?_
  · intro kk hk
    rcases hrel.look (k := (n : Int)) with ⟨l1, l2⟩ | ⟨cv, cb, l1, l2, l3⟩
    · have hu1 : use1 P n = { P with misses := P.misses + 1 } := by unfold use1; rw [l2]; rfl
      have hub : useB P n = P.S.view n := by unfold useB; rw [l2]; simp
      rw [l1]
      simp only [Option.getD_none, Option.isSome_none, ↓o_nil, ↓o_field, ↓o_add, ↓o_sub, ↓o_mul, ↓o_lss, ↓o_leq, ↓o_gtr, ↓o_geq, ↓o_not, ↓o_pick, ↓o_eqInt, ↓o_neInt, ↓o_eqBool, ↓o_neBool, ↓o_eqPtr, ↓o_nePtr, ↓o_eqPtr', ↓o_eqSl, ↓o_neSl, ↓o_eqStr, ↓o_neStr, ↓o_len, ↓o_lenS, ↓o_min, ↓o_max, ↓o_extract, ↓o_convInt, ↓cd_true, ↓cd_false, ↓gate_tt, ↓gate_ff, ↓gate_tf, ↓gate_ft, ↓gate_undef, ↓o_bind, ↓stay_v, ↓pop_cons, ↓fin_nil, Option.isNone_none, Option.isNone_some, Bool.not_true, Bool.not_false, Nat.zero_add, decide_true, decide_false, if_true, if_false, Bool.false_eq_true, ↓reduceIte]
      refine ld_at (b := pb) h ?_
      simp only [↓o_nil, ↓o_field, ↓o_add, ↓o_sub, ↓o_mul, ↓o_lss, ↓o_leq, ↓o_gtr, ↓o_geq, ↓o_not, ↓o_pick, ↓o_eqInt, ↓o_neInt, ↓o_eqBool, ↓o_neBool, ↓o_eqPtr, ↓o_nePtr, ↓o_eqPtr', ↓o_eqSl, ↓o_neSl, ↓o_eqStr, ↓o_neStr, ↓o_len, ↓o_lenS, ↓o_min, ↓o_max, ↓o_extract, ↓o_convInt, ↓cd_true, ↓cd_false, ↓gate_tt, ↓gate_ff, ↓gate_tf, ↓gate_ft, ↓gate_undef, ↓o_bind, ↓stay_v, ↓pop_cons, ↓fin_nil, Option.isNone_none, Option.isNone_some, Bool.not_true, Bool.not_false, Nat.zero_add, decide_true, decide_false, if_true, if_false, Bool.false_eq_true, ↓reduceIte]
      refine atAdd_spec (b := A.q) h (xs := [Value.pointer (some ⟨A.p, 0, none⟩), .int .i64 P.most, .map (some A.dm), .map (some A.cm), rv, .map (some A.pm), .int .i64 P.hits, .int .i64 P.misses]) rfl fun w h => ?_
      rw [i64_of (by omega) (by omega)] at h
      have h : sat E w (pgr A (use1 P n) * (pts pb (.cells [Value.pointer (some ⟨A.q, 0, none⟩)].toArray 30 (0, 0)) * R)) := by
        rw [hu1]
        refine sat_pgr.2 ⟨rv, ds, cs, ?_⟩
        exact h.perm (by
          show pts A.q (.cells [Value.pointer (some ⟨A.p, 0, none⟩), .int .i64 P.most, .map (some A.dm), .map (some A.cm), rv, .map (some A.pm), .int .i64 P.hits, .int .i64 ((P.misses : Int) + 1)].toArray 65 (0, 0)) * _ = pts A.q (.cells [Value.pointer (some ⟨A.p, 0, none⟩), .int .i64 P.most, .map (some A.dm), .map (some A.cm), rv, .map (some A.pm), .int .i64 P.hits, .int .i64 ((P.misses + 1 : Nat) : Int)].toArray 65 (0, 0)) * _
          rw [show ((P.misses + 1 : Nat) : Int) = (P.misses : Int) + 1 by omega]
          try ac_rfl)
      refine ld_at (b := pb) h ?_
      simp only [↓o_nil, ↓o_field, ↓o_add, ↓o_sub, ↓o_mul, ↓o_lss, ↓o_leq, ↓o_gtr, ↓o_geq, ↓o_not, ↓o_pick, ↓o_eqInt, ↓o_neInt, ↓o_eqBool, ↓o_neBool, ↓o_eqPtr, ↓o_nePtr, ↓o_eqPtr', ↓o_eqSl, ↓o_neSl, ↓o_eqStr, ↓o_neStr, ↓o_len, ↓o_lenS, ↓o_min, ↓o_max, ↓o_extract, ↓o_convInt, ↓cd_true, ↓cd_false, ↓gate_tt, ↓gate_ff, ↓gate_tf, ↓gate_ft, ↓gate_undef, ↓o_bind, ↓stay_v, ↓pop_cons, ↓fin_nil, Option.isNone_none, Option.isNone_some, Bool.not_true, Bool.not_false, Nat.zero_add, decide_true, decide_false, if_true, if_false, Bool.false_eq_true, ↓reduceIte]
      obtain ⟨rv2, ds2, cs2, h2⟩ := sat_pgr.1 h
      unfold pcells at h2
      refine ld_at (b := A.q) h2 ?_
      obtain ⟨Y, h, hb⟩ := pgr_log h
      have hS : (use1 P n).S = P.S := by rw [hu1]
      rw [hS] at h
      refine Read_ok h (by omega) hle hn ok.i.wf.l (fun v e => ok.i.look e) (ok.i.place_lt hn) fun v w h => ?_
      try simp only [↓o_nil, ↓o_field, ↓o_add, ↓o_sub, ↓o_mul, ↓o_lss, ↓o_leq, ↓o_gtr, ↓o_geq, ↓o_not, ↓o_pick, ↓o_eqInt, ↓o_neInt, ↓o_eqBool, ↓o_neBool, ↓o_eqPtr, ↓o_nePtr, ↓o_eqPtr', ↓o_eqSl, ↓o_neSl, ↓o_eqStr, ↓o_neStr, ↓o_len, ↓o_lenS, ↓o_min, ↓o_max, ↓o_extract, ↓o_convInt, ↓cd_true, ↓cd_false, ↓gate_tt, ↓gate_ff, ↓gate_tf, ↓gate_ft, ↓gate_undef, ↓o_bind, ↓stay_v, ↓pop_cons, ↓fin_nil, Option.isNone_none, Option.isNone_some, Bool.not_true, Bool.not_false, Nat.zero_add, decide_true, decide_false, if_true, if_false, Bool.false_eq_true, ↓reduceIte]
      refine hk _ w ⟨v, rfl, ?_⟩
      have h := osl_freeze h
      rw [hub]
      have h : sat E w (lgI A.p A.d A.b P.S (Y * (pers (immS v 256 ((P.S.view n).map bv)) * (pts pb (.cells [Value.pointer (some ⟨A.q, 0, none⟩)].toArray 30 (0, 0)) * R)))) := by
        unfold lgI at h ⊢
        exact h.perm (by show pers (immS v 256 ((P.S.view n).map bv)) * _ = _; ac_rfl)
      rw [← hS] at h
      have h := hb h
      rw [hS] at h
      exact h.perm (by ac_rfl)
    · have hu1 : use1 P n = { P with hits := P.hits + 1 } := by unfold use1; rw [l2]; rfl
      have hub : useB P n = cb := by unfold useB; rw [l2]; rfl
      rw [l1]
      simp only [Option.getD_some, Option.isSome_some, ↓o_nil, ↓o_field, ↓o_add, ↓o_sub, ↓o_mul, ↓o_lss, ↓o_leq, ↓o_gtr, ↓o_geq, ↓o_not, ↓o_pick, ↓o_eqInt, ↓o_neInt, ↓o_eqBool, ↓o_neBool, ↓o_eqPtr, ↓o_nePtr, ↓o_eqPtr', ↓o_eqSl, ↓o_neSl, ↓o_eqStr, ↓o_neStr, ↓o_len, ↓o_lenS, ↓o_min, ↓o_max, ↓o_extract, ↓o_convInt, ↓cd_true, ↓cd_false, ↓gate_tt, ↓gate_ff, ↓gate_tf, ↓gate_ft, ↓gate_undef, ↓o_bind, ↓stay_v, ↓pop_cons, ↓fin_nil, Option.isNone_none, Option.isNone_some, Bool.not_true, Bool.not_false, Nat.zero_add, decide_true, decide_false, if_true, if_false, Bool.false_eq_true, ↓reduceIte]
      have hcb : cb.length = 256 := by rw [← hub]; exact hb256
      have h := sat_dup (immM cs P.clean) h
      have h := h.pers_mono (ψ := immS cv cb.length (cb.map bv)) fun I hI => by
        rcases relM.look (k := (n : Int)) hI with ⟨m1, _⟩ | ⟨v', b', m1, m2, m3⟩
        · rw [m1] at l1; cases l1
        · rw [m1, Option.some.injEq] at l1
          rw [m2, Option.some.injEq] at l2
          subst l1; subst l2; exact m3
      refine ld_at (b := pb) h ?_
      simp only [↓o_nil, ↓o_field, ↓o_add, ↓o_sub, ↓o_mul, ↓o_lss, ↓o_leq, ↓o_gtr, ↓o_geq, ↓o_not, ↓o_pick, ↓o_eqInt, ↓o_neInt, ↓o_eqBool, ↓o_neBool, ↓o_eqPtr, ↓o_nePtr, ↓o_eqPtr', ↓o_eqSl, ↓o_neSl, ↓o_eqStr, ↓o_neStr, ↓o_len, ↓o_lenS, ↓o_min, ↓o_max, ↓o_extract, ↓o_convInt, ↓cd_true, ↓cd_false, ↓gate_tt, ↓gate_ff, ↓gate_tf, ↓gate_ft, ↓gate_undef, ↓o_bind, ↓stay_v, ↓pop_cons, ↓fin_nil, Option.isNone_none, Option.isNone_some, Bool.not_true, Bool.not_false, Nat.zero_add, decide_true, decide_false, if_true, if_false, Bool.false_eq_true, ↓reduceIte]
      refine atAdd_spec (b := A.q) h (xs := [Value.pointer (some ⟨A.p, 0, none⟩), .int .i64 P.most, .map (some A.dm), .map (some A.cm), rv, .map (some A.pm), .int .i64 P.hits, .int .i64 P.misses]) rfl fun w h => ?_
      rw [i64_of (by omega) (by omega)] at h
      refine hk _ w ⟨cv, rfl, ?_⟩
      rw [hub, ← hcb]
      have h : sat E w (pgr A (use1 P n) * (pers (immS cv cb.length (cb.map bv)) * (pts pb (.cells [Value.pointer (some ⟨A.q, 0, none⟩)].toArray 30 (0, 0)) * R))) := by
        rw [hu1]
        refine sat_pgr.2 ⟨rv, ds, cs, ?_⟩
        exact h.perm (by
          show pts A.q (.cells [Value.pointer (some ⟨A.p, 0, none⟩), .int .i64 P.most, .map (some A.dm), .map (some A.cm), rv, .map (some A.pm), .int .i64 ((P.hits : Int) + 1), .int .i64 P.misses].toArray 65 (0, 0)) * _ = pts A.q (.cells [Value.pointer (some ⟨A.p, 0, none⟩), .int .i64 P.most, .map (some A.dm), .map (some A.cm), rv, .map (some A.pm), .int .i64 ((P.hits + 1 : Nat) : Int), .int .i64 P.misses].toArray 65 (0, 0)) * _
          rw [show ((P.hits + 1 : Nat) : Int) = (P.hits : Int) + 1 by omega]
          unfold lgI
          try ac_rfl)
      exact h.perm (by ac_rfl)
  · clear h hrel
    rintro σ w ⟨v, rfl, h⟩
    rw [pop_cons, fin_nil]
    generalize hP1 : use1 P n = P1 at h
    have hr1 : P1.row = P.row ∧ P1.most = P.most ∧ P1.pins = P.pins := by rw [← hP1]; unfold use1; split <;> exact ⟨rfl, rfl, rfl⟩
    obtain ⟨r1, r2, r3⟩ := hr1
    refine ld_at (b := pb) h ?_
    have h : sat E w (pgr A P1 * (pers (immS v 256 ((useB P n).map bv)) * (pts pb (.cells [Value.pointer (some ⟨A.q, 0, none⟩)].toArray 30 (0, 0)) * R))) := h.perm (by ac_rfl)
    refine drop_spec (by rw [r1]; omega) h fun w h => ?_
    obtain ⟨rv2, ds2, cs2, h⟩ := sat_pgr.1 h
    have hrow : (dropP P1 n).row = P.row.filter fun k => !decide (k = (n : Int)) := by show P1.row.filter _ = _; rw [r1]
    have hrowl : (dropP P1 n).row.length ≤ 64 := by rw [hrow]; have := List.length_filter_le (fun k => !decide (k = (n : Int))) P.row; omega
    refine dr_sl h fun w h _ => ?_
    refine ld_at (b := pb) h ?_
    refine ld_at (b := pb) h ?_
    simp only [↓o_nil, ↓o_field, ↓o_add, ↓o_sub, ↓o_mul, ↓o_lss, ↓o_leq, ↓o_gtr, ↓o_geq, ↓o_not, ↓o_pick, ↓o_eqInt, ↓o_neInt, ↓o_eqBool, ↓o_neBool, ↓o_eqPtr, ↓o_nePtr, ↓o_eqPtr', ↓o_eqSl, ↓o_neSl, ↓o_eqStr, ↓o_neStr, ↓o_len, ↓o_lenS, ↓o_min, ↓o_max, ↓o_extract, ↓o_convInt, ↓cd_true, ↓cd_false, ↓gate_tt, ↓gate_ff, ↓gate_tf, ↓gate_ft, ↓gate_undef, ↓o_bind, ↓stay_v, ↓pop_cons, ↓fin_nil, Option.isNone_none, Option.isNone_some, Bool.not_true, Bool.not_false, Nat.zero_add, decide_true, decide_false, if_true, if_false, Bool.false_eq_true, ↓reduceIte]
    unfold pcells at h
    refine ld_at (b := A.q) h ?_
    refine buildSlice_sl (e := 3) (cs := #[.int .i64 (n : Int)]) h (fun w => by kernel_rfl) fun b2 w h => ?_
    refine st_at (b := A.q) h ?_
    refine st_at (b := pb) h ?_
    refine st_at (b := pb) h ?_
    have h := h.owns rv2
    refine append_sl h [.int .i64 (n : Int)] rfl (.inr ⟨b2, 0, _, 3, (0, 0), rfl, h.drop.pts_get, fun j u hj => by simpa using hj⟩) (by simp [Value.oneCell']) (by omega) (by omega) fun rv3 w h => ?_
    obtain ⟨a3, c3, rfl, _, _, _⟩ := osl_shape h
    try simp only [↓o_nil, ↓o_field, ↓o_add, ↓o_sub, ↓o_mul, ↓o_lss, ↓o_leq, ↓o_gtr, ↓o_geq, ↓o_not, ↓o_pick, ↓o_eqInt, ↓o_neInt, ↓o_eqBool, ↓o_neBool, ↓o_eqPtr, ↓o_nePtr, ↓o_eqPtr', ↓o_eqSl, ↓o_neSl, ↓o_eqStr, ↓o_neStr, ↓o_len, ↓o_lenS, ↓o_min, ↓o_max, ↓o_extract, ↓o_convInt, ↓cd_true, ↓cd_false, ↓gate_tt, ↓gate_ff, ↓gate_tf, ↓gate_ft, ↓gate_undef, ↓o_bind, ↓stay_v, ↓pop_cons, ↓fin_nil, Option.isNone_none, Option.isNone_some, Bool.not_true, Bool.not_false, Nat.zero_add, decide_true, decide_false, if_true, if_false, Bool.false_eq_true, ↓reduceIte]
    refine st_at (b := pb) h ?_
    refine store_at (b := A.q) h rfl (by simp) fun w h => ?_
    refine ld_at (b := pb) h ?_
    simp only [↓o_nil, ↓o_field, ↓o_add, ↓o_sub, ↓o_mul, ↓o_lss, ↓o_leq, ↓o_gtr, ↓o_geq, ↓o_not, ↓o_pick, ↓o_eqInt, ↓o_neInt, ↓o_eqBool, ↓o_neBool, ↓o_eqPtr, ↓o_nePtr, ↓o_eqPtr', ↓o_eqSl, ↓o_neSl, ↓o_eqStr, ↓o_neStr, ↓o_len, ↓o_lenS, ↓o_min, ↓o_max, ↓o_extract, ↓o_convInt, ↓cd_true, ↓cd_false, ↓gate_tt, ↓gate_ff, ↓gate_tf, ↓gate_ft, ↓gate_undef, ↓o_bind, ↓stay_v, ↓pop_cons, ↓fin_nil, Option.isNone_none, Option.isNone_some, Bool.not_true, Bool.not_false, Nat.zero_add, decide_true, decide_false, if_true, if_false, Bool.false_eq_true, ↓reduceIte]
    refine ld_at (b := A.q) h ?_
    refine update_sl (b := A.cm) h fun w h => ?_
    have hU2 : use2 P n = { dropP P1 n with row := (dropP P1 n).row ++ [(n : Int)], clean := putB (dropP P1 n).clean n (useB P n) } := by unfold use2; rw [hP1]
    have hvv : ∃ av cv', v = .slice av 256 cv' := by
      obtain ⟨a, c, e, _⟩ := (h.split (pers (immS v 256 ((useB P n).map bv)))).pers_get
      exact ⟨a, c, e⟩
    have h := sat_dup (immS v 256 ((useB P n).map bv)) h
    have h := sat_imp2 h (immS v 256 ((useB P n).map bv)) (immM cs2 (dropP P1 n).clean) (χ := immM (putM cs2 n v) (putB (dropP P1 n).clean n (useB P n))) fun I h1 h2 => relM.put (by rw [hb256]; exact h1) h2
    have h : sat E w (pgr A (use2 P n) * (pers (immS v 256 ((useB P n).map bv)) * (pts pb (.cells [Value.pointer (some ⟨A.q, 0, none⟩)].toArray 30 (0, 0)) * (pts b2 (.cells #[.int .i64 (n : Int)] 3 (0, 0)) * R)))) := by
      rw [hU2]
      refine sat_pgr.2 ⟨.slice a3 ((dropP P1 n).row.length + 1) c3, ds2, putM cs2 n v, ?_⟩
      simp only [List.length_append, List.length_cons, List.length_nil, List.map_append, List.map_cons, List.map_nil, Nat.zero_add]
      exact h.perm (by
        show _ = pts A.q (.cells [Value.pointer (some ⟨A.p, 0, none⟩), .int .i64 (dropP P1 n).most, .map (some A.dm), .map (some A.cm), .slice a3 ((dropP P1 n).row.length + 1) c3, .map (some A.pm), .int .i64 (dropP P1 n).hits, .int .i64 (dropP P1 n).misses].toArray 65 (0, 0)) * _
        unfold lgI
        ac_rfl)
    clear hU2
    have hmost : (use2 P n).most = P.most := use2_same.2.2.2
    have hpins : (use2 P n).pins = P.pins := use2_same.2.2.1
    have hrow2 : (use2 P n).row = (P.row.filter fun k => !decide (k = (n : Int))) ++ [(n : Int)] := use2_row
    have hrl2 : (use2 P n).row.length ≤ 65 := by rw [hrow2, List.length_append]; have := List.length_filter_le (fun k => !decide (k = (n : Int))) P.row; simp only [List.length_cons, List.length_nil]; omega
    refine jn_cut (fun σ w => σ = [] ∧ sat E w (pgr A (useP P n) * (pers (immS v 256 ((useB P n).map bv)) * (pts pb (.cells [Value.pointer (some ⟨A.q, 0, none⟩)].toArray 30 (0, 0)) * (pts b2 (.cells #[.int .i64 (n : Int)] 3 (0, 0)) * R))))) ?_ ?_
    · intro kk hk
      have hU := h
      obtain ⟨rv4, ds4, cs4, h⟩ := sat_pgr.1 h
      obtain ⟨a4, c4, rfl, _, _, _⟩ := osl_shape (h.owns rv4)
      have hback : ∀ {w : World}, sat E w (pts A.q (.cells (pcells (use2 P n) A (.slice a4 (use2 P n).row.length c4)).toArray 65 (0, 0)) * (omap A.dm ds4 * (omap A.cm cs4 * (omap A.pm (pinsM (use2 P n).pins) * (osl 3 1 (.slice a4 (use2 P n).row.length c4) (use2 P n).row.length ((use2 P n).row.map iv) * (pers (immM ds4 (use2 P n).dirty) * (pers (immM cs4 (use2 P n).clean) * lgI A.p A.d A.b (use2 P n).S (pers (immS v 256 ((useB P n).map bv)) * (pts pb (.cells [Value.pointer (some ⟨A.q, 0, none⟩)].toArray 30 (0, 0)) * (pts b2 (.cells #[.int .i64 (n : Int)] 3 (0, 0)) * R)))))))))) → sat E w (pgr A (use2 P n) * (pers (immS v 256 ((useB P n).map bv)) * (pts pb (.cells [Value.pointer (some ⟨A.q, 0, none⟩)].toArray 30 (0, 0)) * (pts b2 (.cells #[.int .i64 (n : Int)] 3 (0, 0)) * R)))) := fun h => sat_pgr.2 ⟨_, ds4, cs4, h⟩
      unfold pcells at h hback
      refine dr_sl h fun w h _ => ?_
      refine ld_at (b := pb) h ?_
      simp only [↓o_nil, ↓o_field, ↓o_add, ↓o_sub, ↓o_mul, ↓o_lss, ↓o_leq, ↓o_gtr, ↓o_geq, ↓o_not, ↓o_pick, ↓o_eqInt, ↓o_neInt, ↓o_eqBool, ↓o_neBool, ↓o_eqPtr, ↓o_nePtr, ↓o_eqPtr', ↓o_eqSl, ↓o_neSl, ↓o_eqStr, ↓o_neStr, ↓o_len, ↓o_lenS, ↓o_min, ↓o_max, ↓o_extract, ↓o_convInt, ↓cd_true, ↓cd_false, ↓gate_tt, ↓gate_ff, ↓gate_tf, ↓gate_ft, ↓gate_undef, ↓o_bind, ↓stay_v, ↓pop_cons, ↓fin_nil, Option.isNone_none, Option.isNone_some, Bool.not_true, Bool.not_false, Nat.zero_add, decide_true, decide_false, if_true, if_false, Bool.false_eq_true, ↓reduceIte]
      refine ld_at (b := A.q) h ?_
      simp only [↓o_nil, ↓o_field, ↓o_add, ↓o_sub, ↓o_mul, ↓o_lss, ↓o_leq, ↓o_gtr, ↓o_geq, ↓o_not, ↓o_pick, ↓o_eqInt, ↓o_neInt, ↓o_eqBool, ↓o_neBool, ↓o_eqPtr, ↓o_nePtr, ↓o_eqPtr', ↓o_eqSl, ↓o_neSl, ↓o_eqStr, ↓o_neStr, ↓o_len, ↓o_lenS, ↓o_min, ↓o_max, ↓o_extract, ↓o_convInt, ↓cd_true, ↓cd_false, ↓gate_tt, ↓gate_ff, ↓gate_tf, ↓gate_ft, ↓gate_undef, ↓o_bind, ↓stay_v, ↓pop_cons, ↓fin_nil, Option.isNone_none, Option.isNone_some, Bool.not_true, Bool.not_false, Nat.zero_add, decide_true, decide_false, if_true, if_false, Bool.false_eq_true, ↓reduceIte]
      refine ld_at (b := pb) h ?_
      simp only [↓o_nil, ↓o_field, ↓o_add, ↓o_sub, ↓o_mul, ↓o_lss, ↓o_leq, ↓o_gtr, ↓o_geq, ↓o_not, ↓o_pick, ↓o_eqInt, ↓o_neInt, ↓o_eqBool, ↓o_neBool, ↓o_eqPtr, ↓o_nePtr, ↓o_eqPtr', ↓o_eqSl, ↓o_neSl, ↓o_eqStr, ↓o_neStr, ↓o_len, ↓o_lenS, ↓o_min, ↓o_max, ↓o_extract, ↓o_convInt, ↓cd_true, ↓cd_false, ↓gate_tt, ↓gate_ff, ↓gate_tf, ↓gate_ft, ↓gate_undef, ↓o_bind, ↓stay_v, ↓pop_cons, ↓fin_nil, Option.isNone_none, Option.isNone_some, Bool.not_true, Bool.not_false, Nat.zero_add, decide_true, decide_false, if_true, if_false, Bool.false_eq_true, ↓reduceIte]
      refine ld_at (b := A.q) h ?_
      try simp only [↓o_nil, ↓o_field, ↓o_add, ↓o_sub, ↓o_mul, ↓o_lss, ↓o_leq, ↓o_gtr, ↓o_geq, ↓o_not, ↓o_pick, ↓o_eqInt, ↓o_neInt, ↓o_eqBool, ↓o_neBool, ↓o_eqPtr, ↓o_nePtr, ↓o_eqPtr', ↓o_eqSl, ↓o_neSl, ↓o_eqStr, ↓o_neStr, ↓o_len, ↓o_lenS, ↓o_min, ↓o_max, ↓o_extract, ↓o_convInt, ↓cd_true, ↓cd_false, ↓gate_tt, ↓gate_ff, ↓gate_tf, ↓gate_ft, ↓gate_undef, ↓o_bind, ↓stay_v, ↓pop_cons, ↓fin_nil, Option.isNone_none, Option.isNone_some, Bool.not_true, Bool.not_false, Nat.zero_add, decide_true, decide_false, if_true, if_false, Bool.false_eq_true, ↓reduceIte]
      rw [hmost]
      by_cases hfull : (P.most : Int) < ((use2 P n).row.length : Int)
      · simp only [hfull, ↓o_nil, ↓o_field, ↓o_add, ↓o_sub, ↓o_mul, ↓o_lss, ↓o_leq, ↓o_gtr, ↓o_geq, ↓o_not, ↓o_pick, ↓o_eqInt, ↓o_neInt, ↓o_eqBool, ↓o_neBool, ↓o_eqPtr, ↓o_nePtr, ↓o_eqPtr', ↓o_eqSl, ↓o_neSl, ↓o_eqStr, ↓o_neStr, ↓o_len, ↓o_lenS, ↓o_min, ↓o_max, ↓o_extract, ↓o_convInt, ↓cd_true, ↓cd_false, ↓gate_tt, ↓gate_ff, ↓gate_tf, ↓gate_ft, ↓gate_undef, ↓o_bind, ↓stay_v, ↓pop_cons, ↓fin_nil, Option.isNone_none, Option.isNone_some, Bool.not_true, Bool.not_false, Nat.zero_add, decide_true, decide_false, if_true, if_false, Bool.false_eq_true, ↓reduceIte]
        refine ld_at (b := pb) h ?_
        simp only [↓o_nil, ↓o_field, ↓o_add, ↓o_sub, ↓o_mul, ↓o_lss, ↓o_leq, ↓o_gtr, ↓o_geq, ↓o_not, ↓o_pick, ↓o_eqInt, ↓o_neInt, ↓o_eqBool, ↓o_neBool, ↓o_eqPtr, ↓o_nePtr, ↓o_eqPtr', ↓o_eqSl, ↓o_neSl, ↓o_eqStr, ↓o_neStr, ↓o_len, ↓o_lenS, ↓o_min, ↓o_max, ↓o_extract, ↓o_convInt, ↓cd_true, ↓cd_false, ↓gate_tt, ↓gate_ff, ↓gate_tf, ↓gate_ft, ↓gate_undef, ↓o_bind, ↓stay_v, ↓pop_cons, ↓fin_nil, Option.isNone_none, Option.isNone_some, Bool.not_true, Bool.not_false, Nat.zero_add, decide_true, decide_false, if_true, if_false, Bool.false_eq_true, ↓reduceIte]
        refine ld_at (b := A.q) h ?_
        refine pvv_of (v := .func (.func 60) #[] #[.pointer (some ⟨pb, 0, none⟩)]) (fun _ => rfl) ?_
        refine IndexI_spec (p := fun x => !decide (x ∈ (use2 P n).pins)) h Rds.own (by omega) (fun x w K' h hk' => unpinned_spec (pb := pb) (q := A.q) (pm := A.pm) h rfl (hk' w h)) (fun hall w h => ?_) (fun i hi hpi hz w h => ?_)
        · simp only [↓o_nil, ↓o_field, ↓o_add, ↓o_sub, ↓o_mul, ↓o_lss, ↓o_leq, ↓o_gtr, ↓o_geq, ↓o_not, ↓o_pick, ↓o_eqInt, ↓o_neInt, ↓o_eqBool, ↓o_neBool, ↓o_eqPtr, ↓o_nePtr, ↓o_eqPtr', ↓o_eqSl, ↓o_neSl, ↓o_eqStr, ↓o_neStr, ↓o_len, ↓o_lenS, ↓o_min, ↓o_max, ↓o_extract, ↓o_convInt, ↓cd_true, ↓cd_false, ↓gate_tt, ↓gate_ff, ↓gate_tf, ↓gate_ft, ↓gate_undef, ↓o_bind, ↓stay_v, ↓pop_cons, ↓fin_nil, Option.isNone_none, Option.isNone_some, Bool.not_true, Bool.not_false, Nat.zero_add, decide_true, decide_false, if_true, if_false, Bool.false_eq_true, ↓reduceIte, show ¬ (0 : Int) ≤ -1 by decide]
          refine hk _ w ⟨rfl, ?_⟩
          rw [hpins] at hall
          have hnone : ((use2 P n).row.find? fun k => !decide (k ∈ P.pins)) = none := List.find?_eq_none.2 fun x hx => by rw [hall x hx]; simp
          rw [useP_none (by omega) hnone]
          exact hback h
        · have h0i : (0 : Int) ≤ (i : Int) := by omega
          simp only [h0i, ↓o_nil, ↓o_field, ↓o_add, ↓o_sub, ↓o_mul, ↓o_lss, ↓o_leq, ↓o_gtr, ↓o_geq, ↓o_not, ↓o_pick, ↓o_eqInt, ↓o_neInt, ↓o_eqBool, ↓o_neBool, ↓o_eqPtr, ↓o_nePtr, ↓o_eqPtr', ↓o_eqSl, ↓o_neSl, ↓o_eqStr, ↓o_neStr, ↓o_len, ↓o_lenS, ↓o_min, ↓o_max, ↓o_extract, ↓o_convInt, ↓cd_true, ↓cd_false, ↓gate_tt, ↓gate_ff, ↓gate_tf, ↓gate_ft, ↓gate_undef, ↓o_bind, ↓stay_v, ↓pop_cons, ↓fin_nil, Option.isNone_none, Option.isNone_some, Bool.not_true, Bool.not_false, Nat.zero_add, decide_true, decide_false, if_true, if_false, Bool.false_eq_true, ↓reduceIte]
          refine dr_sl h fun w h _ => ?_
          refine ld_at (b := pb) h ?_
          refine ld_at (b := pb) h ?_
          simp only [↓o_nil, ↓o_field, ↓o_add, ↓o_sub, ↓o_mul, ↓o_lss, ↓o_leq, ↓o_gtr, ↓o_geq, ↓o_not, ↓o_pick, ↓o_eqInt, ↓o_neInt, ↓o_eqBool, ↓o_neBool, ↓o_eqPtr, ↓o_nePtr, ↓o_eqPtr', ↓o_eqSl, ↓o_neSl, ↓o_eqStr, ↓o_neStr, ↓o_len, ↓o_lenS, ↓o_min, ↓o_max, ↓o_extract, ↓o_convInt, ↓cd_true, ↓cd_false, ↓gate_tt, ↓gate_ff, ↓gate_tf, ↓gate_ft, ↓gate_undef, ↓o_bind, ↓stay_v, ↓pop_cons, ↓fin_nil, Option.isNone_none, Option.isNone_some, Bool.not_true, Bool.not_false, Nat.zero_add, decide_true, decide_false, if_true, if_false, Bool.false_eq_true, ↓reduceIte]
          refine ld_at (b := A.q) h ?_
          obtain ⟨b6, o6, rfl, hb6⟩ := win_cell ((Rds.osl).win (h.owns (.slice a4 (use2 P n).row.length c4)).drop') (j := i) (by rw [List.length_map]; exact hi)
          rw [o_index (by omega) (by omega)]
          simp only [Int.toNat_natCast, Nat.mul_one, Nat.zero_add]
          refine ld_cell hb6 ?_
          rw [List.getElem_map]
          simp only [iv]
          refine drop_spec (by omega) (hback h) fun w h => ?_
          have hsome : ((use2 P n).row.find? fun k => !decide (k ∈ P.pins)) = some (use2 P n).row[i] := by
            rw [hpins] at hpi hz
            exact find_take hi hpi hz
          have h2 := h.perm (star_comm _ _)
          refine st_at (b := pb) h2 ?_
          refine hk _ w ⟨rfl, ?_⟩
          rw [useP_some (by omega) hsome]
          exact h
      · simp only [hfull, ↓o_nil, ↓o_field, ↓o_add, ↓o_sub, ↓o_mul, ↓o_lss, ↓o_leq, ↓o_gtr, ↓o_geq, ↓o_not, ↓o_pick, ↓o_eqInt, ↓o_neInt, ↓o_eqBool, ↓o_neBool, ↓o_eqPtr, ↓o_nePtr, ↓o_eqPtr', ↓o_eqSl, ↓o_neSl, ↓o_eqStr, ↓o_neStr, ↓o_len, ↓o_lenS, ↓o_min, ↓o_max, ↓o_extract, ↓o_convInt, ↓cd_true, ↓cd_false, ↓gate_tt, ↓gate_ff, ↓gate_tf, ↓gate_ft, ↓gate_undef, ↓o_bind, ↓stay_v, ↓pop_cons, ↓fin_nil, Option.isNone_none, Option.isNone_some, Bool.not_true, Bool.not_false, Nat.zero_add, decide_true, decide_false, if_true, if_false, Bool.false_eq_true, ↓reduceIte]
        refine hk _ w ⟨rfl, ?_⟩
        have hUP : useP P n = use2 P n := by unfold useP; rw [if_neg (by omega)]
        rw [hUP]
        exact hback h
    · rintro σ w ⟨rfl, h⟩
      rw [fin_nil]
      have h : sat E w (pers (immS v 256 ((useB P n).map bv)) * (pts b2 (.cells #[.int .i64 (n : Int)] 3 (0, 0)) * (pts pb (.cells [Value.pointer (some ⟨A.q, 0, none⟩)].toArray 30 (0, 0)) * (pgr A (useP P n) * R)))) := h.perm (by ac_rfl)
      refine Clone_spec h (l := useB P n) (by rw [hb256]; exact Rds.pers.left) (by omega) fun v2 w h => ?_
      rw [hb256] at h
      refine k v2 w ?_
      exact (h.perm (show _ = pers (immS v 256 ((useB P n).map bv)) * (pts b2 (.cells #[.int .i64 (n : Int)] 3 (0, 0)) * (pts pb (.cells [Value.pointer (some ⟨A.q, 0, none⟩)].toArray 30 (0, 0)) * (osl 5 1 v2 256 ((useB P n).map bv) * (pgr A (useP P n) * R)))) by ac_rfl)).drop.drop.drop
end Go.Proofs.Ytcjklbhobmkalaa

/-
  The cache: a page is read.
-/
set_option linter.all false
set_option maxRecDepth 100000
namespace Go.Proofs.Ytcjklbhobmkalaa
open Go Hold
variable {E : World0} {w : World} {H R X : HP} {K : Value → World → Prop}
theorem view_len {S : Lg} {gs : List (List Int)} (i : LInv S gs) {n : Nat} (h : n < S.pages) : (S.view n).length = 256 := by
  unfold Lg.view
  rw [getD_of (i.place_lt h)]
  exact i.wf.l _ (List.getElem_mem _)
theorem POk.page_len {P : Pg} {gs : List (List Int)} (ok : POk P gs) {n : Nat} (h : n < P.S.pages) : (P.page n).length = 256 := by
  unfold Pg.page
  cases e : lookB P.dirty n with
  | none => exact view_len ok.i h
  | some b => exact (ok.da _ (lookB_mem e)).2
theorem PRead_nil {n : Int} (k : K (.tuple #[.slice none 0 0, .int .i64 1]) w) : Calls prog 14 #[.pointer none, .int .i64 n] w (Ret K) := by
  refine c14 ?_
  unfold B14
  refine look_nil ?_
  simp only [↓o_nil, ↓o_field, ↓o_add, ↓o_sub, ↓o_mul, ↓o_lss, ↓o_leq, ↓o_gtr, ↓o_geq, ↓o_not, ↓o_pick, ↓o_eqInt, ↓o_neInt, ↓o_eqBool, ↓o_neBool, ↓o_eqPtr, ↓o_nePtr, ↓o_eqPtr', ↓o_eqSl, ↓o_neSl, ↓o_eqStr, ↓o_neStr, ↓o_len, ↓o_lenS, ↓o_min, ↓o_max, ↓o_extract, ↓o_convInt, ↓cd_true, ↓cd_false, ↓gate_tt, ↓gate_ff, ↓gate_tf, ↓gate_ft, ↓gate_undef, ↓o_bind, ↓stay_v, ↓pop_cons, ↓fin_nil, Option.isNone_none, Option.isNone_some, Bool.not_true, Bool.not_false, Nat.zero_add, decide_true, decide_false, if_true, if_false, Bool.false_eq_true, ↓reduceIte, show ¬ (1 : Int) = 0 by decide]
  exact k
theorem PRead_bad {A : Ad} {P : Pg} {gs : List (List Int)} (ok : POk P gs) (h : sat E w (pgr A P * R)) {n : Int} (hn : n < 0 ∨ (P.S.pages : Int) ≤ n) (k : ∀ w', sat E w' (pgr A P * R) → K (.tuple #[.slice none 0 0, .int .i64 2]) w') : Calls prog 14 #[.pointer (some ⟨A.q, 0, none⟩), .int .i64 n] w (Ret K) := by
  refine c14 ?_
  unfold B14
  refine look_spec ok h fun w h => ?_
  have hl : lookE P n = 2 := by unfold lookE; rw [if_pos hn]
  simp only [hl, ↓o_nil, ↓o_field, ↓o_add, ↓o_sub, ↓o_mul, ↓o_lss, ↓o_leq, ↓o_gtr, ↓o_geq, ↓o_not, ↓o_pick, ↓o_eqInt, ↓o_neInt, ↓o_eqBool, ↓o_neBool, ↓o_eqPtr, ↓o_nePtr, ↓o_eqPtr', ↓o_eqSl, ↓o_neSl, ↓o_eqStr, ↓o_neStr, ↓o_len, ↓o_lenS, ↓o_min, ↓o_max, ↓o_extract, ↓o_convInt, ↓cd_true, ↓cd_false, ↓gate_tt, ↓gate_ff, ↓gate_tf, ↓gate_ft, ↓gate_undef, ↓o_bind, ↓stay_v, ↓pop_cons, ↓fin_nil, Option.isNone_none, Option.isNone_some, Bool.not_true, Bool.not_false, Nat.zero_add, decide_true, decide_false, if_true, if_false, Bool.false_eq_true, ↓reduceIte, show ¬ (2 : Int) = 0 by decide]
  exact k w h
theorem PRead_spec {A : Ad} {P : Pg} {gs : List (List Int)} (ok : POk P gs) (h : sat E w (pgr A P * R)) {n : Nat} (hn : n < P.S.pages) (hh : P.hits ≤ 1000000) (hmi : P.misses ≤ 1000000)
    (k : ∀ v w', POk (readP P n) gs → sat E w' (osl 5 1 v 256 ((P.page n).map bv) * (pgr A (readP P n) * R)) → K (.tuple #[v, .int .i64 0]) w') : Calls prog 14 #[.pointer (some ⟨A.q, 0, none⟩), .int .i64 n] w (Ret K) := by
  have hl : lookE P n = 0 := by unfold lookE; rw [if_neg (by omega)]
  have hlen := ok.page_len hn
  have hrb := ok.readB (n := n)
  refine c14 ?_
  unfold B14
  refine look_spec ok h fun w h => ?_
  simp only [hl, ↓o_nil, ↓o_field, ↓o_add, ↓o_sub, ↓o_mul, ↓o_lss, ↓o_leq, ↓o_gtr, ↓o_geq, ↓o_not, ↓o_pick, ↓o_eqInt, ↓o_neInt, ↓o_eqBool, ↓o_neBool, ↓o_eqPtr, ↓o_nePtr, ↓o_eqPtr', ↓o_eqSl, ↓o_neSl, ↓o_eqStr, ↓o_neStr, ↓o_len, ↓o_lenS, ↓o_min, ↓o_max, ↓o_extract, ↓o_convInt, ↓cd_true, ↓cd_false, ↓gate_tt, ↓gate_ff, ↓gate_tf, ↓gate_ft, ↓gate_undef, ↓o_bind, ↓stay_v, ↓pop_cons, ↓fin_nil, Option.isNone_none, Option.isNone_some, Bool.not_true, Bool.not_false, Nat.zero_add, decide_true, decide_false, if_true, if_false, Bool.false_eq_true, ↓reduceIte]
  have hP := h
  obtain ⟨rv, ds, cs, h⟩ := sat_pgr.1 h
  have hrel : relM (hp w) ds P.dirty := (h.split (pers (immM ds P.dirty))).pers_get
  unfold pcells at h
  refine ld_at (b := A.q) h ?_
  refine look_d (b := A.dm) h ?_
  rcases hrel.look (k := (n : Int)) with ⟨l1, l2⟩ | ⟨cv, cb, l1, l2, l3⟩
  · rw [l1]
    simp only [Option.isSome_none, ↓o_nil, ↓o_field, ↓o_add, ↓o_sub, ↓o_mul, ↓o_lss, ↓o_leq, ↓o_gtr, ↓o_geq, ↓o_not, ↓o_pick, ↓o_eqInt, ↓o_neInt, ↓o_eqBool, ↓o_neBool, ↓o_eqPtr, ↓o_nePtr, ↓o_eqPtr', ↓o_eqSl, ↓o_neSl, ↓o_eqStr, ↓o_neStr, ↓o_len, ↓o_lenS, ↓o_min, ↓o_max, ↓o_extract, ↓o_convInt, ↓cd_true, ↓cd_false, ↓gate_tt, ↓gate_ff, ↓gate_tf, ↓gate_ft, ↓gate_undef, ↓o_bind, ↓stay_v, ↓pop_cons, ↓fin_nil, Option.isNone_none, Option.isNone_some, Bool.not_true, Bool.not_false, Nat.zero_add, decide_true, decide_false, if_true, if_false, Bool.false_eq_true, ↓reduceIte]
    have hd : (n : Int) ∉ P.dirty.map (·.1) := lookB_none.1 l2
    have hr : readP P n = useP P n := by unfold readP; rw [if_pos hl, l2]; rfl
    refine use_spec ok hP hn hh hmi fun v w h => ?_
    have hub : useB P n = P.page n := by rw [← hrb]; unfold readB; rw [l2]
    rw [hub] at h
    refine k v w ?_ ?_
    · rw [hr]; exact ok.useP (by omega) (by omega) hd
    · rw [hr]; exact h
  · rw [l1]
    simp only [Option.isSome_some, Option.getD_some, ↓o_nil, ↓o_field, ↓o_add, ↓o_sub, ↓o_mul, ↓o_lss, ↓o_leq, ↓o_gtr, ↓o_geq, ↓o_not, ↓o_pick, ↓o_eqInt, ↓o_neInt, ↓o_eqBool, ↓o_neBool, ↓o_eqPtr, ↓o_nePtr, ↓o_eqPtr', ↓o_eqSl, ↓o_neSl, ↓o_eqStr, ↓o_neStr, ↓o_len, ↓o_lenS, ↓o_min, ↓o_max, ↓o_extract, ↓o_convInt, ↓cd_true, ↓cd_false, ↓gate_tt, ↓gate_ff, ↓gate_tf, ↓gate_ft, ↓gate_undef, ↓o_bind, ↓stay_v, ↓pop_cons, ↓fin_nil, Option.isNone_none, Option.isNone_some, Bool.not_true, Bool.not_false, Nat.zero_add, decide_true, decide_false, if_true, if_false, Bool.false_eq_true, ↓reduceIte]
    have hr : readP P n = P := by unfold readP; rw [if_pos hl, l2]; rfl
    have hpb : P.page n = cb := by unfold Pg.page; rw [l2]; rfl
    rw [hpb] at hlen
    have h := sat_dup (immM ds P.dirty) h
    have h := h.pers_mono (ψ := immS cv cb.length (cb.map bv)) fun I hI => by
      rcases relM.look (k := (n : Int)) hI with ⟨m1, _⟩ | ⟨v', b', m1, m2, m3⟩
      · rw [m1] at l1; cases l1
      · rw [m1, Option.some.injEq] at l1
        rw [m2, Option.some.injEq] at l2
        subst l1; subst l2; exact m3
    refine Clone_spec h (v := cv) (l := cb) Rds.pers.left (by omega) fun v w h => ?_
    refine k v w (by rw [hr]; exact ok) ?_
    rw [hr, hpb]
    rw [hlen] at h
    have h := h.perm (show _ = pers (immS cv 256 (cb.map bv)) * (osl 5 1 v 256 (cb.map bv) * (pts A.q (.cells (pcells P A rv).toArray 65 (0, 0)) * (omap A.dm ds * (omap A.cm cs * (omap A.pm (pinsM P.pins) * (osl 3 1 rv P.row.length (P.row.map iv) * (pers (immM ds P.dirty) * (pers (immM cs P.clean) * lgI A.p A.d A.b P.S R)))))))) by unfold pcells; ac_rfl)
    have h := h.drop
    exact (sat_pgr.2 ⟨rv, ds, cs, h.perm (show _ = pts A.q (.cells (pcells P A rv).toArray 65 (0, 0)) * (omap A.dm ds * (omap A.cm cs * (omap A.pm (pinsM P.pins) * (osl 3 1 rv P.row.length (P.row.map iv) * (pers (immM ds P.dirty) * (pers (immM cs P.clean) * lgI A.p A.d A.b P.S (osl 5 1 v 256 (cb.map bv) * R))))))) by unfold lgI; ac_rfl)⟩).perm (star_left_comm _ _ _)
theorem readP_same {P : Pg} {n : Int} : (readP P n).S = P.S ∧ (readP P n).dirty = P.dirty ∧ (readP P n).pins = P.pins ∧ (readP P n).most = P.most := by
  unfold readP
  split
  · split
    · exact ⟨rfl, rfl, rfl, rfl⟩
    · exact useP_same
  · exact ⟨rfl, rfl, rfl, rfl⟩
theorem counts_le {P : Pg} {n : Int} : (readP P n).hits ≤ P.hits + 1 ∧ (readP P n).misses ≤ P.misses + 1 := by
  have h1 : (use1 P n).hits ≤ P.hits + 1 ∧ (use1 P n).misses ≤ P.misses + 1 := by
    unfold use1; split
    · exact ⟨Nat.le_refl _, Nat.le_succ _⟩
    · exact ⟨Nat.le_succ _, Nat.le_refl _⟩
  have h2 : (useP P n).hits = (use1 P n).hits ∧ (useP P n).misses = (use1 P n).misses := by
    unfold useP
    split
    · split <;> exact ⟨rfl, rfl⟩
    · exact ⟨rfl, rfl⟩
  unfold readP
  split
  · split
    · exact ⟨Nat.le_succ _, Nat.le_succ _⟩
    · rw [h2.1, h2.2]; exact h1
  · exact ⟨Nat.le_succ _, Nat.le_succ _⟩
end Go.Proofs.Ytcjklbhobmkalaa

/-
  A disk: cuts.
-/
set_option linter.all false
set_option maxRecDepth 100000
namespace Go.Proofs.Ytcjklbhobmkalaa
open Go Hold
variable {E : World0} {w : World} {H R : HP} {K : Value → World → Prop}
/-- The rounds of Backward. -/
theorem Back_spec (G : Nat → HP) {m : Nat} {us : List (Int × Value)} (hm : us.length = m) (hm2 : m ≤ 1000000) {x : Nat} {sv y : Value} (h : sat E w (G m))
    (hG : ∀ j {w : World}, sat E w (G j) → w.heap[x]? = some (.cells #[sv] 44 (0, 0))) (hr : ∀ j, Rds (G j) sv m (wcells us))
    (hy : ∀ (j : Nat) (hj : j < m) (w : World) (K' : Value → World → Prop), sat E w (G (j + 1)) → (∀ w', sat E w' (G j) → K' (.bool true) w') → ef prog (oCall y #[.int .i64 j, .agg #[.int .i64 (us[j]'(by omega)).1, (us[j]'(by omega)).2]]) w K')
    (k : ∀ w', sat E w' (G 0) → K (.tuple #[]) w') : Calls prog 56 #[y, .pointer (some ⟨x, 0, none⟩)] w (Ret K) := by
  have hr0 := hr
  obtain ⟨a, c, rfl, hc, _, ha⟩ := (hr m).shape h
  refine c56 ?_
  unfold B56
  refine ld_cell (v := .slice a m c) (cell_of (hG m h) rfl) ?_
  simp only [↓o_nil, ↓o_field, ↓o_add, ↓o_sub, ↓o_mul, ↓o_lss, ↓o_leq, ↓o_gtr, ↓o_geq, ↓o_not, ↓o_pick, ↓o_eqInt, ↓o_neInt, ↓o_eqBool, ↓o_neBool, ↓o_eqPtr, ↓o_nePtr, ↓o_eqPtr', ↓o_eqSl, ↓o_neSl, ↓o_eqStr, ↓o_neStr, ↓o_len, ↓o_lenS, ↓o_min, ↓o_max, ↓o_extract, ↓o_convInt, ↓cd_true, ↓cd_false, ↓gate_tt, ↓gate_ff, ↓gate_tf, ↓gate_ft, ↓gate_undef, ↓o_bind, ↓stay_v, ↓pop_cons, ↓fin_nil, Option.isNone_none, Option.isNone_some, Bool.not_true, Bool.not_false, Nat.zero_add, decide_true, decide_false, if_true, if_false, Bool.false_eq_true, ↓reduceIte]
  refine lp_nat (fun n σ w => σ = [.int .i64 ((n : Int) - 1)] ∧ n ≤ m ∧ sat E w (G n)) m ⟨?_, Nat.le_refl _, h⟩ ?_
  · rw [i64_of (by omega) (by omega)]
  · rintro n σ w again ⟨rfl, hn, h⟩ hag
    simp only [↓o_nil, ↓o_field, ↓o_add, ↓o_sub, ↓o_mul, ↓o_lss, ↓o_leq, ↓o_gtr, ↓o_geq, ↓o_not, ↓o_pick, ↓o_eqInt, ↓o_neInt, ↓o_eqBool, ↓o_neBool, ↓o_eqPtr, ↓o_nePtr, ↓o_eqPtr', ↓o_eqSl, ↓o_neSl, ↓o_eqStr, ↓o_neStr, ↓o_len, ↓o_lenS, ↓o_min, ↓o_max, ↓o_extract, ↓o_convInt, ↓cd_true, ↓cd_false, ↓gate_tt, ↓gate_ff, ↓gate_tf, ↓gate_ft, ↓gate_undef, ↓o_bind, ↓stay_v, ↓pop_cons, ↓fin_nil, Option.isNone_none, Option.isNone_some, Bool.not_true, Bool.not_false, Nat.zero_add, decide_true, decide_false, if_true, if_false, Bool.false_eq_true, ↓reduceIte]
    refine cd_dec (fun hlt => ?_) (fun hge => ?_)
    · obtain ⟨j, rfl⟩ : ∃ j, n = j + 1 := ⟨n - 1, by omega⟩
      have e : ((j + 1 : Nat) : Int) - 1 = (j : Int) := by omega
      rw [e]
      have hlen := wcells_length us
      refine ld_cell (v := .slice a m c) (cell_of (hG _ h) rfl) ?_
      have hwin := (hr (j + 1)).win h
      obtain ⟨b, o, rfl, _⟩ := win_cell hwin (j := j * 2) (by omega)
      rw [o_index (by omega) (by omega)]
      simp only [Int.toNat_natCast]
      obtain ⟨g1, g2⟩ := wcells_get us j (by omega)
      have h1 := hwin.cell b o rfl _ _ g1
      have h2 := hwin.cell b o rfl _ _ g2
      refine ldv_of (run_loadN (n := 2) (cs := [.int .i64 us[j].1, us[j].2]) rfl ?_) ?_
      · intro i v hi
        match i, hi with
        | 0, hi => simp at hi; subst hi; exact h1
        | 1, hi => simp at hi; subst hi; exact h2
        | i + 2, hi => simp at hi
      refine hy j (by omega) w _ h fun w' h' => ?_
      simp only [↓o_nil, ↓o_field, ↓o_add, ↓o_sub, ↓o_mul, ↓o_lss, ↓o_leq, ↓o_gtr, ↓o_geq, ↓o_not, ↓o_pick, ↓o_eqInt, ↓o_neInt, ↓o_eqBool, ↓o_neBool, ↓o_eqPtr, ↓o_nePtr, ↓o_eqPtr', ↓o_eqSl, ↓o_neSl, ↓o_eqStr, ↓o_neStr, ↓o_len, ↓o_lenS, ↓o_min, ↓o_max, ↓o_extract, ↓o_convInt, ↓cd_true, ↓cd_false, ↓gate_tt, ↓gate_ff, ↓gate_tf, ↓gate_ft, ↓gate_undef, ↓o_bind, ↓stay_v, ↓pop_cons, ↓fin_nil, Option.isNone_none, Option.isNone_some, Bool.not_true, Bool.not_false, Nat.zero_add, decide_true, decide_false, if_true, if_false, Bool.false_eq_true, ↓reduceIte]
      rw [i64_of (by omega) (by omega)]
      exact hag j _ _ (by omega) ⟨rfl, by omega, h'⟩
    · have : n = 0 := by omega
      subst this
      exact k w h
theorem Cut_nil {n : Value} (k : K (.tuple #[.pointer none, .int .i64 1]) w) : Calls prog 13 #[.pointer none, n] w (Ret K) := by
  refine c13 ?_
  unfold B13
  simp only [↓o_nil, ↓o_field, ↓o_add, ↓o_sub, ↓o_mul, ↓o_lss, ↓o_leq, ↓o_gtr, ↓o_geq, ↓o_not, ↓o_pick, ↓o_eqInt, ↓o_neInt, ↓o_eqBool, ↓o_neBool, ↓o_eqPtr, ↓o_nePtr, ↓o_eqPtr', ↓o_eqSl, ↓o_neSl, ↓o_eqStr, ↓o_neStr, ↓o_len, ↓o_lenS, ↓o_min, ↓o_max, ↓o_extract, ↓o_convInt, ↓cd_true, ↓cd_false, ↓gate_tt, ↓gate_ff, ↓gate_tf, ↓gate_ft, ↓gate_undef, ↓o_bind, ↓stay_v, ↓pop_cons, ↓fin_nil, Option.isNone_none, Option.isNone_some, Bool.not_true, Bool.not_false, Nat.zero_add, decide_true, decide_false, if_true, if_false, Bool.false_eq_true, ↓reduceIte]
  exact k
theorem Cut_range {d : Nat} {L : List (List UInt8)} {W : List (Int × List UInt8)} (h : sat E w H) [s : DskS H d L W R] {n : Int} (hn : n < 0 ∨ (W.length : Int) < n)
    (k : K (.tuple #[.pointer none, .int .i64 2]) w) : Calls prog 13 #[.pointer (some ⟨d, 0, none⟩), .int .i64 n] w (Ret K) := by
  obtain ⟨lv, vs, wv, ws, e, hd⟩ := sat_dsk.1 (h.dsks d)
  obtain ⟨a, c, rfl, hc, hl, ha⟩ := osl_shape hd.drop.drop
  refine c13 ?_
  unfold B13
  by_cases h1 : n < 0
  · simp only [↓o_nil, ↓o_field, ↓o_add, ↓o_sub, ↓o_mul, ↓o_lss, ↓o_leq, ↓o_gtr, ↓o_geq, ↓o_not, ↓o_pick, ↓o_eqInt, ↓o_neInt, ↓o_eqBool, ↓o_neBool, ↓o_eqPtr, ↓o_nePtr, ↓o_eqPtr', ↓o_eqSl, ↓o_neSl, ↓o_eqStr, ↓o_neStr, ↓o_len, ↓o_lenS, ↓o_min, ↓o_max, ↓o_extract, ↓o_convInt, ↓cd_true, ↓cd_false, ↓gate_tt, ↓gate_ff, ↓gate_tf, ↓gate_ft, ↓gate_undef, ↓o_bind, ↓stay_v, ↓pop_cons, ↓fin_nil, Option.isNone_none, Option.isNone_some, Bool.not_true, Bool.not_false, Nat.zero_add, decide_true, decide_false, if_true, if_false, Bool.false_eq_true, ↓reduceIte, h1]; exact k
  · have h2 : (W.length : Int) < n := by omega
    simp only [↓o_nil, ↓o_field, ↓o_add, ↓o_sub, ↓o_mul, ↓o_lss, ↓o_leq, ↓o_gtr, ↓o_geq, ↓o_not, ↓o_pick, ↓o_eqInt, ↓o_neInt, ↓o_eqBool, ↓o_neBool, ↓o_eqPtr, ↓o_nePtr, ↓o_eqPtr', ↓o_eqSl, ↓o_neSl, ↓o_eqStr, ↓o_neStr, ↓o_len, ↓o_lenS, ↓o_min, ↓o_max, ↓o_extract, ↓o_convInt, ↓cd_true, ↓cd_false, ↓gate_tt, ↓gate_ff, ↓gate_tf, ↓gate_ft, ↓gate_undef, ↓o_bind, ↓stay_v, ↓pop_cons, ↓fin_nil, Option.isNone_none, Option.isNone_some, Bool.not_true, Bool.not_false, Nat.zero_add, decide_true, decide_false, if_true, if_false, Bool.false_eq_true, ↓reduceIte, h1]
    refine ld_at hd ?_
    simp only [↓o_nil, ↓o_field, ↓o_add, ↓o_sub, ↓o_mul, ↓o_lss, ↓o_leq, ↓o_gtr, ↓o_geq, ↓o_not, ↓o_pick, ↓o_eqInt, ↓o_neInt, ↓o_eqBool, ↓o_neBool, ↓o_eqPtr, ↓o_nePtr, ↓o_eqPtr', ↓o_eqSl, ↓o_neSl, ↓o_eqStr, ↓o_neStr, ↓o_len, ↓o_lenS, ↓o_min, ↓o_max, ↓o_extract, ↓o_convInt, ↓cd_true, ↓cd_false, ↓gate_tt, ↓gate_ff, ↓gate_tf, ↓gate_ft, ↓gate_undef, ↓o_bind, ↓stay_v, ↓pop_cons, ↓fin_nil, Option.isNone_none, Option.isNone_some, Bool.not_true, Bool.not_false, Nat.zero_add, decide_true, decide_false, if_true, if_false, Bool.false_eq_true, ↓reduceIte, h2]
    exact k
theorem Cut_spec {d : Nat} {L : List (List UInt8)} {W : List (Int × List UInt8)} (h : sat E w H) [s : DskS H d L W R] (wf : Wf L W) (hW : W.length ≤ 1000000) {n : Nat} (hn : n ≤ W.length)
    (k : ∀ d' w', sat E w' (dsk d' (undo L (W.drop n)) [] * (dsk d L W * R)) → K (.tuple #[.pointer (some ⟨d', 0, none⟩), .int .i64 0]) w') : Calls prog 13 #[.pointer (some ⟨d, 0, none⟩), .int .i64 n] w (Ret K) := by
  obtain ⟨lv, vs, wv, ws, e, hd⟩ := sat_dsk.1 (h.dsks d)
  have hL2 : ws.length = W.length := by simpa using hd.drop.drop.drop.drop.pers_get.1
  obtain ⟨a, c, rfl, hc, hl, ha⟩ := osl_shape hd.drop.drop
  refine c13 ?_
  unfold B13
  have h1 : ¬ (n : Int) < 0 := by omega
  have h2 : ¬ (W.length : Int) < n := by omega
  simp only [↓o_nil, ↓o_field, ↓o_add, ↓o_sub, ↓o_mul, ↓o_lss, ↓o_leq, ↓o_gtr, ↓o_geq, ↓o_not, ↓o_pick, ↓o_eqInt, ↓o_neInt, ↓o_eqBool, ↓o_neBool, ↓o_eqPtr, ↓o_nePtr, ↓o_eqPtr', ↓o_eqSl, ↓o_neSl, ↓o_eqStr, ↓o_neStr, ↓o_len, ↓o_lenS, ↓o_min, ↓o_max, ↓o_extract, ↓o_convInt, ↓cd_true, ↓cd_false, ↓gate_tt, ↓gate_ff, ↓gate_tf, ↓gate_ft, ↓gate_undef, ↓o_bind, ↓stay_v, ↓pop_cons, ↓fin_nil, Option.isNone_none, Option.isNone_some, Bool.not_true, Bool.not_false, Nat.zero_add, decide_true, decide_false, if_true, if_false, Bool.false_eq_true, ↓reduceIte, h1]
  refine ld_at hd ?_
  simp only [↓o_nil, ↓o_field, ↓o_add, ↓o_sub, ↓o_mul, ↓o_lss, ↓o_leq, ↓o_gtr, ↓o_geq, ↓o_not, ↓o_pick, ↓o_eqInt, ↓o_neInt, ↓o_eqBool, ↓o_neBool, ↓o_eqPtr, ↓o_nePtr, ↓o_eqPtr', ↓o_eqSl, ↓o_neSl, ↓o_eqStr, ↓o_neStr, ↓o_len, ↓o_lenS, ↓o_min, ↓o_max, ↓o_extract, ↓o_convInt, ↓cd_true, ↓cd_false, ↓gate_tt, ↓gate_ff, ↓gate_tf, ↓gate_ft, ↓gate_undef, ↓o_bind, ↓stay_v, ↓pop_cons, ↓fin_nil, Option.isNone_none, Option.isNone_some, Bool.not_true, Bool.not_false, Nat.zero_add, decide_true, decide_false, if_true, if_false, Bool.false_eq_true, ↓reduceIte, h2]
  refine ld_at hd ?_
  refine copied_spec hd (rdd_of hd) wf.le (fun l hl => by rw [wf.l l hl]; omega) fun ov vs' w _ hd => ?_
  obtain ⟨ao, co, rfl, hco, hol, hoa⟩ := osl_shape hd
  refine alloc_sl hd fun ob w hd => ?_
  refine store_at hd (xs := [_]) rfl (by simp) fun w hd => ?_
  refine ld_at hd ?_
  rw [o_slice_l (by omega) (by omega)]
  simp only [Int.toNat_natCast]
  refine c33 ?_
  unfold B33
  refine box_sl hd fun xb w hd => ?_
  refine pvv_of (v := .func (.func 56) #[] #[.pointer (some ⟨xb, 0, none⟩)]) (fun _ => rfl) ?_
  refine rng_body hd Try.func56 (by kernel_rfl) (by kernel_rfl) fun rec D D1 w hd hround => ?_
  refine Back_spec (E := E) (fun j => (pts D1 (rec .ready none) * (pts D (.deferred (some [])) * (pts xb (.cells #[.slice (cutA a c n 2) (W.length - n) (c - n)] 44 (0, 0)) * (pts ob (.cells [Value.slice ao L.length co].toArray 22 (0, 0)) *
    (pts d (.cells [lv, .slice a W.length c, .int .i64 W.length].toArray 51 (0, 0)) * (osl 33 1 lv L.length vs * (osl 84 2 (.slice a W.length c) W.length (wcells ws) * (pers (immAll vs L) * (pers (immAll (ws.map (·.2)) (W.map (·.2))) * R))))))))) *
    ex fun us => osl 33 1 (.slice ao L.length co) L.length us * pers (immAll us (undo L ((W.drop n).drop j)))) (m := W.length - n) (us := ws.drop n) (by simp [hL2]) (by omega) (x := xb) (sv := .slice (cutA a c n 2) (W.length - n) (c - n)) ?_ ?_ ?_ ?_ ?_
  · rw [star_ex]
    refine sat_ex.2 ⟨vs', ?_⟩
    have : (W.drop n).drop (W.length - n) = [] := by simp; omega
    rw [this]
    exact hd.perm (by simp only [Value.cells]; ac_rfl)
  · intro j w h
    exact h.has
  · intro j E w h
    have hw := osl_rd (h.owns (.slice a W.length c))
    obtain ⟨a', c', e, hc', hw⟩ := hw
    cases e
    refine ⟨_, _, rfl, by omega, ?_⟩
    rw [wcells_drop]
    exact win_cut hw (fun hcn => by rw [wcells_length]; omega)
  · intro j hj w K' h hk
    rw [star_ex] at h
    obtain ⟨us, h⟩ := sat_ex.1 h
    have hj1 : n + j < ws.length := by omega
    have hj2 : n + j < W.length := by omega
    have e1 : (ws.drop n)[j]'(by simp; omega) = ws[n + j] := by simp
    have e2 : ws[n + j].1 = W[n + j].1 := by
      have := congrArg (fun l => l[n + j]?) e
      simp only [List.getElem?_map, List.getElem?_eq_getElem hj1, List.getElem?_eq_getElem hj2, Option.map_some, Option.some.injEq] at this
      exact this
    obtain ⟨w1, w2, w3⟩ := wf.w W[n + j] (List.getElem_mem hj2)
    have hrd : Rds (pers (immAll (ws.map (·.2)) (W.map (·.2)))) ws[n + j].2 W[n + j].2.length (W[n + j].2.map bv) :=
      immAll_rds (i := n + j) (by simp [List.getElem?_eq_getElem hj1]) (by simp [List.getElem?_eq_getElem hj2])
    obtain ⟨a2, c2, e3, hc2, hrd, _⟩ := hrd.shape (h.split (pers (immAll (ws.map (·.2)) (W.map (·.2))))).drop'
    obtain ⟨p, hp⟩ := Int.eq_ofNat_of_zero_le w1
    rw [e1, e2, e3, hp]
    have hpl : p < L.length := by omega
    refine hround [.int .i64 j, .agg #[.int .i64 p, .slice a2 W[n + j].2.length c2]] w K' rfl h.has ?_
    simp only [↓o_nil, ↓o_field, ↓o_add, ↓o_sub, ↓o_mul, ↓o_lss, ↓o_leq, ↓o_gtr, ↓o_geq, ↓o_not, ↓o_pick, ↓o_eqInt, ↓o_neInt, ↓o_eqBool, ↓o_neBool, ↓o_eqPtr, ↓o_nePtr, ↓o_eqPtr', ↓o_eqSl, ↓o_neSl, ↓o_eqStr, ↓o_neStr, ↓o_len, ↓o_lenS, ↓o_min, ↓o_max, ↓o_extract, ↓o_convInt, ↓cd_true, ↓cd_false, ↓gate_tt, ↓gate_ff, ↓gate_tf, ↓gate_ft, ↓gate_undef, ↓o_bind, ↓stay_v, ↓pop_cons, ↓fin_nil, Option.isNone_none, Option.isNone_some, Bool.not_true, Bool.not_false, Nat.zero_add, decide_true, decide_false, if_true, if_false, Bool.false_eq_true, ↓reduceIte]
    refine alloc_sl h fun wb w h => ?_
    have h : sat E w (pts wb (.cells [Value.int .i64 0, .slice none 0 0].toArray 84 (0, 0)) * _) := h
    refine storeN_sl (n := 2) h (by kernel_rfl) (vs := [.int .i64 p, .slice a2 W[n + j].2.length c2]) rfl rfl (by simp [Value.oneCell']) (by simp) fun w h => ?_
    simp only [List.take_zero, List.nil_append, List.length_cons, List.length_nil, List.drop_succ_cons, List.drop_zero, List.append_nil, Nat.zero_add] at h
    refine ⟨h.has, ?_⟩
    have h := (h.own D1).set (rec .busy none)
    refine dr_sl h fun w h _ => ?_
    simp only [↓o_nil, ↓o_field, ↓o_add, ↓o_sub, ↓o_mul, ↓o_lss, ↓o_leq, ↓o_gtr, ↓o_geq, ↓o_not, ↓o_pick, ↓o_eqInt, ↓o_neInt, ↓o_eqBool, ↓o_neBool, ↓o_eqPtr, ↓o_nePtr, ↓o_eqPtr', ↓o_eqSl, ↓o_neSl, ↓o_eqStr, ↓o_neStr, ↓o_len, ↓o_lenS, ↓o_min, ↓o_max, ↓o_extract, ↓o_convInt, ↓cd_true, ↓cd_false, ↓gate_tt, ↓gate_ff, ↓gate_tf, ↓gate_ft, ↓gate_undef, ↓o_bind, ↓stay_v, ↓pop_cons, ↓fin_nil, Option.isNone_none, Option.isNone_some, Bool.not_true, Bool.not_false, Nat.zero_add, decide_true, decide_false, if_true, if_false, Bool.false_eq_true, ↓reduceIte]
    refine ld_at h ?_
    refine ld_at h ?_
    refine ld_at h ?_
    refine Clone_spec h (v := .slice a2 W[n + j].2.length c2) (l := W[n + j].2) (Rds.under hrd) (by omega) fun v5 w h => ?_
    have h := osl_freeze h
    obtain ⟨a5, c5, rfl, hc5, _⟩ := h.pers_get
    refine st_at h ?_
    refine st_at h ?_
    obtain ⟨ob2, rfl⟩ := hoa (by omega)
    rw [o_index (by omega) (by omega)]
    simp only [Int.toNat_natCast, Nat.mul_one, Nat.zero_add]
    refine osl_store h (c := co) hpl rfl fun w h => ?_
    refine ⟨h.has, hk _ ?_⟩
    have h := (h.own D1).set (rec .ready none)
    rw [star_ex]
    refine sat_ex.2 ⟨us.set p (.slice a5 W[n + j].2.length c5), ?_⟩
    have eu : undo L ((W.drop n).drop j) = (undo L ((W.drop n).drop (j + 1))).set p W[n + j].2 := by
      have : (W.drop n).drop j = W[n + j] :: (W.drop n).drop (j + 1) := by
        rw [List.drop_drop, List.drop_drop, List.drop_eq_getElem_cons hj2]; rfl
      rw [this]
      simp [undo, hp]
    rw [eu]
    have h := sat_imp2 (h.lose wb) (immS (.slice a5 W[n + j].2.length c5) W[n + j].2.length (W[n + j].2.map bv)) (immAll us (undo L ((W.drop n).drop (j + 1))))
      (χ := immAll (us.set p (.slice a5 W[n + j].2.length c5)) ((undo L ((W.drop n).drop (j + 1))).set p W[n + j].2)) (fun I h1 h2 => immAll_set h2 h1)
    exact h.perm (by ac_rfl)
  · intro w h
    rw [star_ex] at h
    obtain ⟨us, h⟩ := sat_ex.1 h
    refine ⟨.ready, none, h.has, by simp, ?_⟩
    have h := (h.own D1).set (rec .exhausted none)
    simp only [jump]
    refine ld_at h ?_
    refine pvv_of (v := .agg #[.slice ao L.length co, .slice none 0 0, .int .i64 0]) (fun _ => by kernel_rfl) ?_
    refine box_sl h fun d2 w h => ?_
    have h : sat E w (pts d2 (.cells [Value.slice ao L.length co, .slice none 0 0, .int .i64 0].toArray 51 (0, 0)) * _) := h
    refine ⟨h.has, ?_⟩
    have h := (h.own D).set (.deferred none)
    refine k d2 _ ?_
    simp only [List.drop_zero] at h
    have h := dsk_shut d L W e (h.lose ob)
    have h := osl_nil h 84 2
    have h : sat E _ (pers (immAll (List.map (·.2) ([] : List (Int × Value))) (List.map (·.2) ([] : List (Int × List UInt8)))) * _) := immAll_nil h
    have h := dsk_shut' (lv := .slice ao L.length co) (wv := .slice none 0 0) (vs := us) (ws := []) d2 (undo L (W.drop n)) [] (undo_length L _).symm rfl h
    exact ((h.lose D).lose D1).lose xb
end Go.Proofs.Ytcjklbhobmkalaa
