/-
  A node is written to a page, or to two.
-/
import Derived.Test.YtfaeklinhchidaaGreatTreK
import Derived.Test.YtfaeklinhchidaaGreatMapsE
import Derived.Test.YtfaeklinhchidaaGreatTreA
import Derived.Test.YtfaeklinhchidaaGreatTrpF
import Derived.Test.YtfaeklinhchidaaGreatStrs
import Derived.Lib.BytesEntry
import Derived.Test.YtfaeklinhchidaaGreatWalT
import Derived.Test.YtfaeklinhchidaaGreatPI
import Derived.Recover
import Derived.WalkKit
set_option linter.all false
set_option maxRecDepth 100000
namespace Go.Proofs.YtfaeklinhchidaaGreat
open Go Hold
variable {E : World0} {w : World} {H R X : HP} {K : Value → World → Prop}
/-- A change while an entry of its pages waits for its value. -/
def chgE (C : Cx) (c : Nat) (s : St) (m p n : Nat) : HP := ex fun q : List (Int × Value) × List (Int × Bs) => pur (MapOk C.N C.ct s.cc s.w q.2) *
  (omapE m q.1 p n * (pers (immM q.1 q.2) * (pts C.cb (.cells (ccells C s).toArray 124 (0, 0)) * (pts C.tb (.cells (tcells C).toArray 73 (0, 0)) * pX C.A C.N C.ct 0 C.kk c))))
theorem sat_chgE {C : Cx} {c : Nat} {s : St} {m p n : Nat} : sat E w (chgE C c s m p n * R) ↔ ∃ ds D, MapOk C.N C.ct s.cc s.w D ∧ sat E w (omapE m ds p n * (pers (immM ds D) * (pts C.cb (.cells (ccells C s).toArray 124 (0, 0)) * (pts C.tb (.cells (tcells C).toArray 73 (0, 0)) * (pX C.A C.N C.ct 0 C.kk c * R))))) := by
  unfold chgE
  rw [sat_ex_star]
  constructor
  · rintro ⟨⟨ds, D⟩, h⟩
    simp only [star_assoc] at h
    rw [sat_pur_star] at h
    exact ⟨ds, D, h.1, h.2⟩
  · rintro ⟨ds, D, h1, h2⟩
    refine ⟨(ds, D), ?_⟩
    simp only [star_assoc]
    rw [sat_pur_star]
    exact ⟨h1, h2⟩
theorem chg_entry {C : Cx} {c m : Nat} {s : St} {p : Nat} (hm : C.mo = some m) (h : sat E w (chg C c s * R))
    (k : ∀ u n w', sat E w' (chgE C c s m p n * R) → K (.tuple #[u, .int .i64 (n : Nat)]) w') : efv prog (Instr.mapEntry 117 (.map C.mo) (.int .i64 p)) w K := by
  have h := sat_chg.1 h
  rw [hm] at h ⊢
  have h := h.perm (show _ = chM (some m) C.N C.ct s.cc s.w * (pts C.cb (.cells (ccells C s).toArray 124 (0, 0)) * (pts C.tb (.cells (tcells C).toArray 73 (0, 0)) * (pX C.A C.N C.ct 0 C.kk c * R))) by ac_rfl)
  obtain ⟨ds, D, ok, h⟩ := sat_chM.1 h
  exact entry_sl h fun u n w h => k u n w (sat_chgE.2 ⟨ds, D, ok, h⟩)
theorem chg_store {C : Cx} {c m n : Nat} {s s' : St} {p : Nat} {y : PgC} {v : Value} (hm : C.mo = some m) (hr : putS C.N s p y = some s') (h : sat E w (pers (immS v 256 (y.bytes.map bv)) * (chgE C c s m p n * R)))
    (k : ∀ w', sat E w' (chg C c s' * R) → K undef w') : efu prog (Instr.entryStore 117 (.map C.mo) (.int .i64 n) v) w K := by
  obtain ⟨h1, h2, rfl⟩ := putS_some hr
  rw [hm]
  obtain ⟨ds, D, ok, h⟩ := sat_chgE.1 (h.perm (star_left_comm _ _ _))
  refine entry_store h fun w h => k w (sat_chg.2 ?_)
  have h := sat_imp2 h (immM ds D) (immS v 256 (y.bytes.map bv)) (χ := immM (putM ds p v) (putB D p y.bytes)) fun I h1 h2' => by
    refine relM.put ?_ h1
    rw [PgC.len h2]; exact h2'
  rw [hm]
  have h3 : sat E w (chM (some m) C.N C.ct (upd s.cc p y) (s.w + 1) * (pts C.cb (.cells (ccells C s).toArray 124 (0, 0)) * (pts C.tb (.cells (tcells C).toArray 73 (0, 0)) * (pX C.A C.N C.ct 0 C.kk c * R)))) := sat_chM.2 ⟨_, _, ok.put h1 h2, h.perm (by ac_rfl)⟩
  exact h3.perm (show _ = pts C.cb (.cells (ccells C s).toArray 124 (0, 0)) * (pts C.tb (.cells (tcells C).toArray 73 (0, 0)) * (chM (some m) C.N C.ct (upd s.cc p y) (s.w + 1) * (pX C.A C.N C.ct 0 C.kk c * R))) by ac_rfl)
theorem ev_R {φ : PP} {xs : List Ev} (hx : ∀ I, φ.p I → ∀ x ∈ xs, evJ I x) {H R' : HP} [s : Split H (pers φ) R'] : ∀ x ∈ xs, EvR H x := fun x hm => .of fun E w hs => hx _ (hs.split (pers φ)).pers_get x hm
def mkE (ka : Option Addr) (kc : Nat) (key : Bs) (p : Nat) : Ev := ⟨ka, kc, none, 0, ⟨key, [], p⟩⟩
theorem mkE_J {J : Hp} {ka : Option Addr} {kc : Nat} {key : Bs} {p : Nat} (h : RdS J (.slice ka key.length kc) key.length (key.map bv)) : evJ J (mkE ka kc key p) := ⟨h, ⟨none, 0, rfl, Nat.le_refl _, .inl rfl⟩⟩
theorem write1_spec {C : Cx} {c m : Nat} {s s' : St} {p : Nat} {key : Bs} {leaf : Bool} {lv : Value} {xs : List Ev} (hm : C.mo = some m) (hb : (⟨leaf, esv xs⟩ : Nd).bytes ≤ 253) (hw : putS C.N s p (.node ⟨leaf, esv xs⟩) = some s')
    {φ : PP} (hx : ∀ I, φ.p I → ∀ x ∈ xs, evJ I x) {ka : Option Addr} {kc : Nat} (hk : ∀ I, φ.p I → RdS I (.slice ka key.length kc) key.length (key.map bv)) (hf : Few xs) (hl : Rds R lv xs.length (elv xs)) (h : sat E w (chg C c s * (pers φ * R)))
    (k : ∀ v w', (∀ I, φ.p I → ∀ y ∈ [mkE ka kc key p], evJ I y) → sat E w' (osl 67 3 v 1 (elv [mkE ka kc key p]) * (chg C c s' * (pers φ * R))) → K v w') :
    Calls prog 82 #[.pointer (some ⟨C.cb, 0, none⟩), .int .i64 p, .slice ka key.length kc, nv leaf lv] w (Ret K) := by
  obtain ⟨a, c1, rfl, hc, hl, _⟩ := hl.shape h.drop.drop
  refine c82 ?_
  unfold B82
  refine box_sl h fun n0 w h => ?_
  have h : sat E w (pts n0 (.cells [Value.bool leaf, .slice a xs.length c1].toArray 63 (0, 0)) * (chg C c s * (pers φ * R))) := h
  refine ld_agg (b := n0) h rfl ?_
  refine bytes_spec h hl.right.right.right hf fun w h => ?_
  have h1 : ((⟨leaf, esv xs⟩ : Nd).bytes : Int) ≤ 253 := by omega
  simp only [h1, ↓opsA, opsB, if_true, if_false, ↓reduceIte]
  refine dr_sl h fun w h _ => ?_
  try simp only [↓opsA, opsB, if_true, if_false, ↓reduceIte]
  have hcb : ∀ {w : World} {Y : HP}, sat E w (Y * (chg C c s * (pers φ * R))) → sat E w (pts C.cb (.cells (ccells C s).toArray 124 (0, 0)) * (pts C.tb (.cells (tcells C).toArray 73 (0, 0)) * (chM C.mo C.N C.ct s.cc s.w * (pX C.A C.N C.ct 0 C.kk c * (Y * (pers φ * R)))))) := fun h => sat_chg.1 (h.perm (star_left_comm _ _ _))
  refine ld_in (b := C.cb) (v := .map C.mo) (hcb h) rfl ?_
  refine ld_agg (b := n0) h rfl ?_
  obtain ⟨hp1, hy, _⟩ := putS_some hw
  refine page_spec h hl.right.right.right (ev_R hx) hy fun b w h => ?_
  refine st_in (b := C.cb) (xs := ccells C s) (hcb (h.perm (show _ = (pts b (.cells ((pad (⟨leaf, esv xs⟩ : Nd).raw).map bv).toArray 5 (0, 0)) * pts n0 (.cells [Value.bool leaf, .slice a xs.length c1].toArray 63 (0, 0))) * (chg C c s * (pers φ * R)) by ac_rfl))) rfl ?_
  have h := row_stay (PgC.len (x := .node ⟨leaf, esv xs⟩) hy) h
  have h := h.perm (show _ = pers (immS (.slice (some ⟨b, 0, none⟩) 256 256) 256 ((PgC.node ⟨leaf, esv xs⟩).bytes.map bv)) * (chg C c s * (pts n0 (.cells [Value.bool leaf, .slice a xs.length c1].toArray 63 (0, 0)) * (pers φ * R))) by
    show _ = pers (immS (.slice (some ⟨b, 0, none⟩) 256 256) 256 ((pad (⟨leaf, esv xs⟩ : Nd).raw).map bv)) * _; ac_rfl)
  refine chg_put hm hw h fun w h => ?_
  refine pvv_of (v := .agg (ecells (mkE ka kc key p)).toArray) (fun w => by kernel_rfl) ?_
  refine buildSlice_sl (e := 67) (cs := (ecells (mkE ka kc key p)).toArray) h (fun w => by kernel_rfl) fun b3 w h => ?_
  have h := osl_of (n := 1) (sz := 3) h rfl (by omega)
  refine k _ w (fun I hI y hy => ?_) ?_
  · simp at hy; subst hy; exact mkE_J (hk I hI)
  · rw [show elv [mkE ka kc key p] = ecells (mkE ka kc key p) by simp [elv]]
    exact (h.perm (show _ = pts n0 (.cells [Value.bool leaf, .slice a xs.length c1].toArray 63 (0, 0)) * (osl 67 3 (.slice (some ⟨b3, 0, none⟩) 1 1) 1 (ecells (mkE ka kc key p)) * (chg C c s' * (pers φ * R))) by ac_rfl)).drop
end Go.Proofs.YtfaeklinhchidaaGreat

/-
  A node that is too great is written to two pages.
-/
set_option linter.all false
set_option maxRecDepth 100000
namespace Go.Proofs.YtfaeklinhchidaaGreat
open Go Hold
variable {E : World0} {w : World} {H R X : HP} {K : Value → World → Prop}
def bxN (b : Nat) (leaf : Bool) (v : Value) : HP := pts b (.cells [Value.bool leaf, v].toArray 63 (0, 0))
instance hasBx (b : Nat) (leaf : Bool) (v : Value) : Has (bxN b leaf v) b (.cells [Value.bool leaf, v].toArray 63 (0, 0)) := ⟨fun h => (h.perm (star_emp _).symm).pts_get⟩
theorem write2_spec {C : Cx} {c m : Nat} {s s1 s2 s' : St} {p o : Nat} {key : Bs} {leaf : Bool} {lv : Value} {xs : List Ev} (hm : C.mo = some m) (hb : ¬ (⟨leaf, esv xs⟩ : Nd).bytes ≤ 253)
    (hat : halfP ⟨leaf, esv xs⟩ < xs.length) (ht : takeS C.N s = some (o, s1)) (hw1 : putS C.N s1 p (.node ⟨leaf, (esv xs).take (halfP ⟨leaf, esv xs⟩)⟩) = some s2) (hw2 : putS C.N s2 o (.node ⟨leaf, (esv xs).drop (halfP ⟨leaf, esv xs⟩)⟩) = some s')
    {φ : PP} (hx : ∀ I, φ.p I → ∀ x ∈ xs, evJ I x) {ka : Option Addr} {kc : Nat} (hk : ∀ I, φ.p I → RdS I (.slice ka key.length kc) key.length (key.map bv)) (hf : Few xs) (hl : Rds R lv xs.length (elv xs)) (h : sat E w (chg C (c + 1) s * (pers φ * R)))
    (k : ∀ v ys w', ys = [mkE ka kc key p, mkE xs[halfP ⟨leaf, esv xs⟩].ka xs[halfP ⟨leaf, esv xs⟩].kc xs[halfP ⟨leaf, esv xs⟩].e.k o] → (∀ I, φ.p I → ∀ y ∈ ys, evJ I y) → sat E w' (osl 67 3 v 2 (elv ys) * (chg C c s' * (pers φ * R))) → K v w') :
    Calls prog 82 #[.pointer (some ⟨C.cb, 0, none⟩), .int .i64 p, .slice ka key.length kc, nv leaf lv] w (Ret K) := by
  obtain ⟨a, c1, rfl, hc, hl, _⟩ := hl.shape h.drop.drop
  have hf1 := hf.1
  refine c82 ?_
  unfold B82
  refine box_sl h fun n0 w h => ?_
  have h : sat E w (bxN n0 leaf (.slice a xs.length c1) * (chg C (c + 1) s * (pers φ * R))) := h
  refine ld_agg (b := n0) (xs := [Value.bool leaf, .slice a xs.length c1]) h rfl ?_
  refine bytes_spec h hl.right.right.right hf fun w h => ?_
  have h1 : ¬ ((⟨leaf, esv xs⟩ : Nd).bytes : Int) ≤ 253 := by omega
  simp only [h1, ↓opsA, opsB, if_true, if_false, ↓reduceIte]
  refine ld_agg (b := n0) (xs := [Value.bool leaf, .slice a xs.length c1]) h rfl ?_
  refine half_spec h hl.right.right.right hf (by omega) fun w h => ?_
  generalize halfP ⟨leaf, esv xs⟩ = at_ at *
  obtain ⟨b, o1, rfl, _⟩ := ld_ev h hl.right.right.right hat
  refine dr_sl h fun w h _ => ?_
  try simp only [↓opsA, opsB, if_true, if_false, ↓reduceIte]
  refine ld_in (b := n0) (xs := [Value.bool leaf, .slice (some ⟨b, o1, none⟩) xs.length c1]) (v := .bool leaf) h rfl ?_
  refine ld_in (b := n0) (xs := [Value.bool leaf, .slice (some ⟨b, o1, none⟩) xs.length c1]) (v := .slice (some ⟨b, o1, none⟩) xs.length c1) h rfl ?_
  rw [o_slice_hm (by omega) (by omega) (by omega)]
  simp only [Int.toNat_natCast]
  refine pvv_of (v := nv leaf (.slice (some ⟨b, o1, none⟩) at_ at_)) (fun w => by kernel_rfl) ?_
  refine ld_in (b := n0) (xs := [Value.bool leaf, .slice (some ⟨b, o1, none⟩) xs.length c1]) (v := .bool leaf) h rfl ?_
  refine ld_in (b := n0) (xs := [Value.bool leaf, .slice (some ⟨b, o1, none⟩) xs.length c1]) (v := .slice (some ⟨b, o1, none⟩) xs.length c1) h rfl ?_
  rw [o_slice_l (by omega) (by omega), cutA_at, if_neg (by omega)]
  simp only [Int.toNat_natCast]
  refine pvv_of (v := nv leaf (.slice (some ⟨b, o1 + at_ * 3, none⟩) (xs.length - at_) (c1 - at_))) (fun w => by kernel_rfl) ?_
  refine par_two [Value.bool false, .slice none 0 0] 63 h ⟨?_, ?_, ?_⟩
  · rintro σ w ⟨o0, o1', rfl, h⟩ hun
    have e0 : o0 = none := by cases o0 <;> simp [ptrO] at hun; rfl
    subst e0
    refine alloc_sl h fun l0 w h => ?_
    refine st_in (b := n0) (xs := [Value.bool leaf, .slice (some ⟨b, o1, none⟩) xs.length c1]) h rfl ?_
    refine st_in (b := n0) (xs := [Value.bool leaf, .slice (some ⟨b, o1, none⟩) xs.length c1]) h rfl ?_
    refine st_in (b := n0) (xs := [Value.bool leaf, .slice (some ⟨b, o1, none⟩) xs.length c1]) h rfl ?_
    refine st_in (b := n0) (xs := [Value.bool leaf, .slice (some ⟨b, o1, none⟩) xs.length c1]) h rfl ?_
    refine ⟨some l0, o1', rfl, ?_⟩
    unfold ob at h ⊢
    rw [emp_star] at h
    exact h
  · rintro σ w ⟨o0, o1', rfl, h⟩ hun
    have e0 : o1' = none := by cases o1' <;> simp [ptrO] at hun; rfl
    subst e0
    refine alloc_sl h fun l0 w h => ?_
    refine st_in (b := n0) (xs := [Value.bool leaf, .slice (some ⟨b, o1, none⟩) xs.length c1]) h rfl ?_
    refine st_in (b := n0) (xs := [Value.bool leaf, .slice (some ⟨b, o1, none⟩) xs.length c1]) h rfl ?_
    refine st_in (b := n0) (xs := [Value.bool leaf, .slice (some ⟨b, o1, none⟩) xs.length c1]) h rfl ?_
    refine st_in (b := n0) (xs := [Value.bool leaf, .slice (some ⟨b, o1, none⟩) xs.length c1]) h rfl ?_
    refine ⟨o0, some l0, rfl, ?_⟩
    have h : sat E w (pts l0 (.cells [Value.bool false, .slice none 0 0].toArray 63 (0, 0)) * (ob [Value.bool false, .slice none 0 0] 63 o0 * (ob [Value.bool false, .slice none 0 0] 63 none * _))) := h
    rw [show ob [Value.bool false, .slice none 0 0] 63 none = emp from rfl, emp_star] at h
    exact h.perm (star_left_comm _ _ _)
  · clear h
    rintro σ w ⟨o0, o1', rfl, h⟩ v0 hv0 v1 hv1
    obtain ⟨l0, rfl⟩ : ∃ l0, o0 = some l0 := by cases o0 with
      | none => simp [ptrO] at hv0
      | some l => exact ⟨l, rfl⟩
    obtain ⟨r0, rfl⟩ : ∃ r0, o1' = some r0 := by cases o1' with
      | none => simp [ptrO] at hv1
      | some l => exact ⟨l, rfl⟩
    have hv0 : v0 = .pointer (some ⟨l0, 0, none⟩) := by simp [ptrO] at hv0; exact hv0.symm
    have hv1 : v1 = .pointer (some ⟨r0, 0, none⟩) := by simp [ptrO] at hv1; exact hv1.symm
    subst hv0; subst hv1
    have h : sat E w (pts l0 (.cells [Value.bool false, .slice none 0 0].toArray 63 (0, 0)) * (pts r0 (.cells [Value.bool false, .slice none 0 0].toArray 63 (0, 0)) * (bxN n0 leaf (.slice (some ⟨b, o1, none⟩) xs.length c1) * (chg C (c + 1) s * (pers φ * R))))) := h
    refine store_all (b := l0) h (vs := [Value.bool leaf, .slice (some ⟨b, o1, none⟩) at_ at_]) rfl rfl (by simp [Value.oneCell']) fun w h => ?_
    refine st_in (b := n0) (xs := [Value.bool leaf, .slice (some ⟨b, o1, none⟩) xs.length c1]) h rfl ?_
    refine st_in (b := n0) (xs := [Value.bool leaf, .slice (some ⟨b, o1, none⟩) xs.length c1]) h rfl ?_
    refine store_all (b := r0) h (vs := [Value.bool leaf, .slice (some ⟨b, o1 + at_ * 3, none⟩) (xs.length - at_) (c1 - at_)]) rfl rfl (by simp [Value.oneCell']) fun w h => ?_
    have h : sat E w (chg C (c + 1) s * (bxN r0 leaf (.slice (some ⟨b, o1 + at_ * 3, none⟩) (xs.length - at_) (c1 - at_)) * (bxN l0 leaf (.slice (some ⟨b, o1, none⟩) at_ at_) * (bxN n0 leaf (.slice (some ⟨b, o1, none⟩) xs.length c1) * (pers φ * R))))) := h.perm (by unfold bxN; ac_rfl)
    refine take_spec ht h fun w h => ?_
    refine dr_sl h fun w h _ => ?_
    try simp only [↓opsA, opsB, if_true, if_false, ↓reduceIte]
    generalize hF : bxN r0 leaf (.slice (some ⟨b, o1 + at_ * 3, none⟩) (xs.length - at_) (c1 - at_)) * (bxN l0 leaf (.slice (some ⟨b, o1, none⟩) at_ at_) * (bxN n0 leaf (.slice (some ⟨b, o1, none⟩) xs.length c1) * (pers φ * R))) = F at h
    have hcb : ∀ {w : World} {Y : HP}, sat E w (Y * (chg C c s1 * F)) → sat E w (pts C.cb (.cells (ccells C s1).toArray 124 (0, 0)) * (pts C.tb (.cells (tcells C).toArray 73 (0, 0)) * (chM C.mo C.N C.ct s1.cc s1.w * (pX C.A C.N C.ct 0 C.kk c * (Y * F))))) := fun h => sat_chg.1 (h.perm (star_left_comm _ _ _))
    have hL : ∀ {w : World} {Y : HP}, sat E w (Y * F) → sat E w (pts l0 (.cells [Value.bool leaf, .slice (some ⟨b, o1, none⟩) at_ at_].toArray 63 (0, 0)) * (Y * (bxN r0 leaf (.slice (some ⟨b, o1 + at_ * 3, none⟩) (xs.length - at_) (c1 - at_)) * (bxN n0 leaf (.slice (some ⟨b, o1, none⟩) xs.length c1) * (pers φ * R))))) := fun h => by
      rw [← hF] at h; exact h.perm (by unfold bxN; ac_rfl)
    have hRr : ∀ {w : World} {Y : HP}, sat E w (Y * F) → sat E w (pts r0 (.cells [Value.bool leaf, .slice (some ⟨b, o1 + at_ * 3, none⟩) (xs.length - at_) (c1 - at_)].toArray 63 (0, 0)) * (Y * (bxN l0 leaf (.slice (some ⟨b, o1, none⟩) at_ at_) * (bxN n0 leaf (.slice (some ⟨b, o1, none⟩) xs.length c1) * (pers φ * R))))) := fun h => by
      rw [← hF] at h; exact h.perm (by unfold bxN; ac_rfl)
    have hFl : ∀ {v : Value} {n : Nat} {zs : List Value}, Rds R v n zs → Rds F v n zs := fun hr => by rw [← hF]; exact hr.right.right.right.right
    have hFe : ∀ x ∈ xs, EvR F x := fun x hm => by rw [← hF]; exact ((((.of fun E w hs => hx _ (hs.pers_get) x hm : EvR (pers φ * R) x).right).right).right)
    have h0 : sat E w (emp * (chg C c s1 * F)) := by rw [emp_star]; exact h
    refine ld_in (b := C.cb) (v := .map C.mo) (hcb h0) rfl ?_
    refine ld_in (b := C.cb) (v := .map C.mo) (hcb h0) rfl ?_
    refine ld_agg (b := l0) (hL h) rfl ?_
    refine ld_agg (b := r0) (hRr h) rfl ?_
    obtain ⟨hp1, hy1, hs1⟩ := putS_some hw1
    obtain ⟨hp2, hy2, hs2⟩ := putS_some hw2
    rw [← esv_take] at hy1
    rw [← esv_drop] at hy2
    have hlt : (xs.take at_).length = at_ := by rw [List.length_take]; omega
    have hld : (xs.drop at_).length = xs.length - at_ := List.length_drop
    have hrl : Rds F (.slice (some ⟨b, o1, none⟩) at_ at_) (xs.take at_).length (elv (xs.take at_)) := by rw [hlt]; exact hFl (rds_takeE hl (Nat.le_refl _))
    have hrr : Rds F (.slice (some ⟨b, o1 + at_ * 3, none⟩) (xs.length - at_) (c1 - at_)) (xs.drop at_).length (elv (xs.drop at_)) := by rw [hld]; exact hFl (rds_dropE hl hld.symm (by omega) (by omega))
    refine page_spec h hrl.right (fun x hm => (hFe x (List.mem_of_mem_take hm)).right) hy1 fun b1 w h => ?_
    generalize hbx : pts b1 (.cells ((pad (⟨leaf, esv (xs.take at_)⟩ : Nd).raw).map bv).toArray 5 (0, 0)) = B1 at h
    refine st_agg (b := r0) (hRr (h.perm (show _ = (B1 * chg C c s1) * F by ac_rfl))) rfl ?_
    refine st_in (b := C.cb) (xs := ccells C s1) (hcb h) rfl ?_
    refine st_in (b := C.cb) (xs := ccells C s1) (hcb h) rfl ?_
    refine page_spec h hrr.right.right (fun x hm => ((hFe x (List.mem_of_mem_drop hm)).right).right) hy2 fun b2 w h => ?_
    generalize hbx2 : pts b2 (.cells ((pad (⟨leaf, esv (xs.drop at_)⟩ : Nd).raw).map bv).toArray 5 (0, 0)) = B2 at h
    refine st_agg (b := l0) (hL (h.perm (show _ = (B2 * (B1 * chg C c s1)) * F by ac_rfl))) rfl ?_
    have hcb2 := hcb (h.perm (show _ = (B2 * B1) * (chg C c s1 * F) by ac_rfl))
    refine st_in (b := C.cb) (xs := ccells C s1) hcb2 rfl ?_
    refine st_in (b := C.cb) (xs := ccells C s1) hcb2 rfl ?_
    rw [← hbx2] at h
    have h := row_stay (PgC.len (x := .node ⟨leaf, esv (xs.drop at_)⟩) hy2) h
    generalize hP2 : pers (immS (.slice (some ⟨b2, 0, none⟩) 256 256) 256 ((PgC.node ⟨leaf, esv (xs.drop at_)⟩).bytes.map bv)) = P2 at h
    have h := h.perm (show _ = B1 * (P2 * (chg C c s1 * F)) by ac_rfl)
    rw [← hbx] at h
    have h := row_stay (PgC.len (x := .node ⟨leaf, esv (xs.take at_)⟩) hy1) h
    generalize hP1 : pers (immS (.slice (some ⟨b1, 0, none⟩) 256 256) 256 ((PgC.node ⟨leaf, esv (xs.take at_)⟩).bytes.map bv)) = P1 at h
    have h := h.perm (show _ = chg C c s1 * (P1 * (P2 * F)) by ac_rfl)
    refine chg_entry hm h fun u1 n1 w h => ?_
    refine st_agg (b := r0) (hRr (h.perm (show _ = (chgE C c s1 m p n1 * (P1 * P2)) * F by ac_rfl))) rfl ?_
    refine st_agg (b := l0) (hL (h.perm (show _ = (chgE C c s1 m p n1 * (P1 * P2)) * F by ac_rfl))) rfl ?_
    try simp only [↓opsA, opsB, if_true, if_false, ↓reduceIte]
    have h := h.perm (show _ = P1 * (chgE C c s1 m p n1 * (P2 * F)) by ac_rfl)
    rw [← hP1] at h
    rw [← esv_take] at hw1
    refine chg_store hm hw1 h fun w h => ?_
    refine st_agg (b := r0) (hRr (h.perm (show _ = (chg C c s2 * P2) * F by ac_rfl))) rfl ?_
    refine chg_entry hm h fun u2 n2 w h => ?_
    refine st_agg (b := r0) (hRr (h.perm (show _ = (chgE C c s2 m o n2 * P2) * F by ac_rfl))) rfl ?_
    try simp only [↓opsA, opsB, if_true, if_false, ↓reduceIte]
    have h := h.perm (show _ = P2 * (chgE C c s2 m o n2 * F) by ac_rfl)
    rw [← hP2] at h
    rw [← esv_drop] at hw2
    refine chg_store hm hw2 h fun w h => ?_
    refine pvv_of (v := .agg (ecells (mkE ka kc key p)).toArray) (fun w => by kernel_rfl) ?_
    refine ld_in (b := r0) (v := .slice (some ⟨b, o1 + at_ * 3, none⟩) (xs.length - at_) (c1 - at_)) (hRr h) rfl ?_
    rw [o_index (by omega) (by omega)]
    try simp only [↓opsA, opsB, if_true, if_false, ↓reduceIte, Int.toNat_zero, Nat.zero_mul, Nat.add_zero]
    have hkv : (elv xs)[at_ * 3]? = some xs[at_].kv := by
      have := elv_at hat
      exact take_cell (o := at_ * 3) (j := 0) this rfl
    refine ld_rd h (hFl hl).right (at_ * 3) rfl hkv ?_
    refine pvv_of (v := .agg (ecells (mkE xs[at_].ka xs[at_].kc xs[at_].e.k o)).toArray) (fun w => by kernel_rfl) ?_
    refine buildSlice_sl (e := 67) (cs := (ecells (mkE ka kc key p) ++ ecells (mkE xs[at_].ka xs[at_].kc xs[at_].e.k o)).toArray) h (fun w => by kernel_rfl) fun b3 w h => ?_
    have h := osl_of (n := 2) (sz := 3) h rfl (by omega)
    refine k _ _ w rfl (fun I hI y hy => ?_) ?_
    · simp only [List.mem_cons, List.not_mem_nil, or_false] at hy
      rcases hy with rfl | rfl
      · exact mkE_J (hk I hI)
      · exact mkE_J (hx I hI xs[at_] (List.getElem_mem _)).1
    · rw [show elv [mkE ka kc key p, mkE xs[at_].ka xs[at_].kc xs[at_].e.k o] = ecells (mkE ka kc key p) ++ ecells (mkE xs[at_].ka xs[at_].kc xs[at_].e.k o) by simp [elv]]
      rw [← hF] at h
      exact (h.perm (show _ = bxN r0 leaf (.slice (some ⟨b, o1 + at_ * 3, none⟩) (xs.length - at_) (c1 - at_)) * (bxN l0 leaf (.slice (some ⟨b, o1, none⟩) at_ at_) * (bxN n0 leaf (.slice (some ⟨b, o1, none⟩) xs.length c1) * (osl 67 3 (.slice (some ⟨b3, 0, none⟩) 2 2) 2 (ecells (mkE ka kc key p) ++ ecells (mkE xs[at_].ka xs[at_].kc xs[at_].e.k o)) * (chg C c s' * (pers φ * R))))) by ac_rfl)).drop.drop.drop
end Go.Proofs.YtfaeklinhchidaaGreat

/-
  A key's place in a node.
-/
set_option linter.all false
set_option maxRecDepth 100000
namespace Go.Proofs.YtfaeklinhchidaaGreat
open Go Hold
variable {E : World0} {w : World} {H R X : HP} {K : Value → World → Prop}
theorem run_bytesOf {P : Program} {v : Value} {l : List UInt8} (hv : RdS (hp w) v l.length (l.map bv)) : (Extern.Bytes.bytesOf v).run P w = .ok ⟨l.toArray⟩ w := by
  obtain ⟨a, c, rfl, hc, hw⟩ := hv
  cases a with
  | none =>
    have : l = [] := by
      rcases hw with h | ⟨_, _, _, _, _, h, _⟩
      · simpa using h
      · cases h
    subst this; rfl
  | some a =>
    have h1 := Lib.run_loadBytesX (P := P) w (l.map fun x => (x.toNat : Int)) a .empty (fun j x hj => by
      rw [List.getElem?_map] at hj
      cases e : l[j]? with
      | none => rw [e] at hj; cases hj
      | some y =>
        rw [e] at hj
        have hj : (y.toNat : Int) = x := by simpa using hj
        subst hj
        have hlt := (List.getElem?_eq_some_iff.1 e).1
        obtain ⟨b, o, ha, hb⟩ := win_cell hw (j := j) (by simpa using hlt)
        cases ha
        rw [add_addr, hb, List.getElem_map, (List.getElem?_eq_some_iff.1 e).2]
        rfl)
    rw [List.length_map] at h1
    show (Extern.Bytes.loadBytes a l.length .empty).run P w = _
    rw [h1]
    congr 1
    apply ByteArray.ext
    simp [Lib.bytesOf]
    exact (List.map_congr_left (g := id) fun x _ => by simp).trans (List.map_id l)
theorem Compare_spec (h : sat E w H) {v u : Value} {l m : Bs} (hv : Rds H v l.length (l.map bv)) (hu : Rds H u m.length (m.map bv)) (k : K (.int .i64 (Lib.compareBytes l m)) w) : Calls prog 37 #[v, u] w (Ret K) := by
  refine c37 ?_
  unfold B37
  have e1 := run_bytesOf (P := prog) (hv E w h)
  have e2 := run_bytesOf (P := prog) (hu E w h)
  refine ef_of (v := .int .i64 (Lib.compareBytes l m)) ?_ k
  have h1 : (oCall (.func (.func 70) #[] #[]) #[v, u]).run prog w = (vN (Extern.BytealgCompare.compare #[v, u])).run prog w := by kernel_rfl
  rw [h1]
  refine vN_run ?_
  change Sem.run prog (do pure (goInt (Extern.BytealgCompare.cmp (← Extern.Bytes.bytesOf v) (← Extern.Bytes.bytesOf u)))) w = _
  simp only [Sem.run_bind, e1, e2, Result.andThen, Sem.run_pure]
  rw [Lib.cmp_eq]
  rfl
theorem cmpE_spec (h : sat E w H) {x : Ev} {u : Value} {m : Bs} (hx : EvR H x) (hu : Rds H u m.length (m.map bv)) (k : ∀ w', sat E w' H → K (.int .i64 (Lib.compareBytes x.e.k m)) w') :
    ef prog (oCall (.func (.func 56) #[] #[]) #[.agg (ecells x).toArray, u]) w K := by
  refine oCall_body Tryz.func56 (by kernel_rfl) (by kernel_rfl) ?_
  refine c56 ?_
  unfold B56
  refine box_sl h fun e0 w h => ?_
  have h : sat E w (pts e0 (.cells (ecells x).toArray 67 (0, 0)) * H) := h
  simp only [↓opsA, opsB, if_true, if_false, ↓reduceIte]
  refine ld_in (b := e0) (v := x.kv) h rfl ?_
  exact Compare_spec h hx.k.right hu.right (k w h.drop)
theorem half_wrap {a b : Nat} (h : a + b < 2 ^ 62) : IntKind.u64.wrap (IntKind.i64.wrap ((a : Int) + (b : Int))) = ((a + b : Nat) : Int) := by
  rw [i64_of (by omega) (by omega)]
  have : IntKind.u64.wrap ((a : Int) + b) = (a : Int) + b := by
    rw [IntKind.wrap_u64]; omega
  rw [this]; omega
theorem Search_spec (h : sat E w H) {lv u : Value} {xs : List Ev} {m : Bs} (hl : Rds H lv xs.length (elv xs)) (hr : ∀ x ∈ xs, EvR H x) (hu : Rds H u m.length (m.map bv)) (hs : Srt (esv xs)) (hn : xs.length ≤ 1000)
    (k : ∀ w', sat E w' H → K (.tuple #[.int .i64 (((esv xs).countP fun e => lexB e.k m : Nat) : Int), .bool ((esv xs).any fun e => e.k == m)]) w') :
    Calls prog 55 #[lv, u, .func (.func 56) #[] #[]] w (Ret K) := by
  obtain ⟨a, c, rfl, hc, hl, _⟩ := hl.shape h
  have hel : (esv xs).length = xs.length := by simp [esv]
  have hge : ∀ i (hi : i < xs.length), ((esv xs)[i]'(by omega)) = xs[i].e := fun i hi => List.getElem_map (fun x : Ev => x.e)
  refine c55 ?_
  unfold B55
  simp only [↓opsA, opsB, if_true, if_false, ↓reduceIte]
  refine lp_nat (fun q σ w => ∃ i j : Nat, σ = [.int .i64 i, .int .i64 j] ∧ q = j - i ∧ Cutat (esv xs) m i j ∧ sat E w H) xs.length ⟨0, xs.length, rfl, rfl, ⟨by omega, by omega, fun m hm hlt => by omega, fun m hm hlt => by omega⟩, h⟩ ?_
  clear h
  rintro q σ w again ⟨i, j, rfl, rfl, cu, h⟩ hag
  have hij := cu.le; have hj := cu.hj
  try simp only [↓opsA, opsB, if_true, if_false, ↓reduceIte]
  refine cd_dec (fun hlt => ?_) (fun hge2 => ?_)
  · have hlt : i < j := by omega
    rw [half_wrap (by omega), show (1 : Int) = ((1 : Nat) : Int) from rfl, o_shr (by decide)]
    try simp only [↓opsA, opsB, if_true, if_false, ↓reduceIte]
    have e0 : (i + j) / 2 ^ 1 = (i + j) / 2 := rfl
    rw [e0]
    generalize hm2 : (i + j) / 2 = q at *
    have h1 : i ≤ q := by omega
    have h2 : q < j := by omega
    obtain ⟨b, o, rfl, hld⟩ := ld_ev h hl (i := q) (by omega)
    rw [i64_of (n := (q : Int)) (by omega) (by omega), o_index (by omega) (by omega)]
    simp only [Int.toNat_natCast]
    refine hld ?_
    refine cmpE_spec h (hr _ (List.getElem_mem _)) hu fun w h => ?_
    try simp only [↓opsA, opsB, if_true, if_false, ↓reduceIte]
    rw [cmp_lt]
    cases hx : lexB xs[q].e.k m
    · rw [cd_false]
      exact hag (q - i) _ _ (by omega) ⟨i, q, rfl, rfl, cu.down hs h1 (by omega) (by rw [hge q (by omega)]; exact hx), h⟩
    · rw [cd_true]
      try simp only [↓opsA, opsB, if_true, if_false, ↓reduceIte]
      rw [i64_of (by omega) (by omega)]
      exact hag (j - (q + 1)) _ _ (by omega) ⟨q + 1, j, rfl, rfl, cu.up hs h1 h2 (by omega) (by rw [hge q (by omega)]; exact hx), h⟩
  · have e : i = j := by omega
    subst e
    have e1 := cu.count
    have e2 := cu.there hs
    rw [e1] at k
    rw [e2] at k
    by_cases hlt : i < xs.length
    · have hlt2 : (i : Int) < xs.length := by omega
      simp only [hlt2, ↓opsA, opsB, if_true, if_false, ↓reduceIte]
      obtain ⟨b, o, rfl, hld⟩ := ld_ev h hl (i := i) hlt
      rw [o_index (by omega) (by omega)]
      simp only [Int.toNat_natCast, ↓opsA, opsB, if_true, if_false, ↓reduceIte]
      refine hld ?_
      refine cmpE_spec h (hr _ (List.getElem_mem _)) hu fun w h => ?_
      try simp only [↓opsA, opsB, if_true, if_false, ↓reduceIte]
      rw [cmp_eq]
      rw [dif_pos (by omega), hge i hlt] at k
      exact k w h
    · have hlt2 : ¬ (i : Int) < xs.length := by omega
      simp only [hlt2, ↓opsA, opsB, if_true, if_false, ↓reduceIte]
      rw [dif_neg (by omega)] at k
      exact k w h
theorem find_spec (h : sat E w H) {leaf : Bool} {lv u : Value} {xs : List Ev} {m : Bs} (hl : Rds H lv xs.length (elv xs)) (hr : ∀ x ∈ xs, EvR H x) (hu : Rds H u m.length (m.map bv)) (hs : Srt (esv xs)) (hn : xs.length ≤ 1000)
    (k : ∀ w', sat E w' H → K (.tuple #[.int .i64 ((findP ⟨leaf, esv xs⟩ m).1 : Int), .bool (findP ⟨leaf, esv xs⟩ m).2]) w') :
    Calls prog 21 #[nv leaf lv, u] w (Ret K) := by
  obtain ⟨a, c, rfl, hc, hl, _⟩ := hl.shape h
  refine c21 ?_
  unfold B21
  refine box_sl h fun n0 w h => ?_
  have h : sat E w (pts n0 (.cells [Value.bool leaf, .slice a xs.length c].toArray 63 (0, 0)) * H) := h
  simp only [↓opsA, opsB, if_true, if_false, ↓reduceIte]
  refine ld_in (b := n0) (v := .slice a xs.length c) h rfl ?_
  refine Search_spec h hl.right (fun x hx => (hr x hx).right) hu.right hs hn fun w h => ?_
  simp only [↓opsA, opsB, if_true, if_false, ↓reduceIte]
  unfold findP at k
  simp only at k
  have hcl : (esv xs).countP (fun e => lexB e.k m) ≤ 1000 := Nat.le_trans List.countP_le_length (by simpa [esv] using hn)
  generalize (esv xs).countP (fun e => lexB e.k m) = i at *
  generalize (esv xs).any (fun e => e.k == m) = t at *
  refine jn_cut (fun σ w => σ = [.int .i64 ((if (!leaf && !t) = true then i - 1 else i : Nat) : Int)] ∧ sat E w H) ?_ ?_
  · intro kk hk
    try simp only [↓opsA, opsB, if_true, if_false, ↓reduceIte]
    refine ld_in (b := n0) (v := .bool leaf) h rfl ?_
    cases leaf <;> cases t <;> simp only [↓opsA, opsB, if_true, if_false, ↓reduceIte]
    · rw [i64_of (by omega) (by omega)]
      refine hk _ _ ⟨?_, h.drop⟩
      congr 2
      show max ((i : Int) - 1) 0 = ((i - 1 : Nat) : Int)
      omega
    · exact hk _ _ ⟨rfl, h.drop⟩
    · exact hk _ _ ⟨rfl, h.drop⟩
    · exact hk _ _ ⟨rfl, h.drop⟩
  · rintro σ w ⟨rfl, h⟩
    rw [pop_cons, fin_nil]
    exact k w h
end Go.Proofs.YtfaeklinhchidaaGreat

/-
  A leaf is changed, and what lies above it.
-/
set_option linter.all false
set_option maxRecDepth 100000
namespace Go.Proofs.YtfaeklinhchidaaGreat
open Go Hold
variable {E : World0} {w : World} {H R X : HP} {K : Value → World → Prop}
theorem ok_few {n : Nd} (h : NdOk n) {xs : List Ev} (e : esv xs = n.l) : Few xs ∧ xs.length ≤ 126 := by
  have h1 := len_bytes n
  have h2 := h.b
  have h3 : xs.length = n.l.length := by rw [← e, esv_len]
  refine ⟨⟨by omega, fun x hx => ?_⟩, by omega⟩
  have := h.e x.e (by rw [← e]; exact List.mem_map_of_mem hx)
  have a := this.k; have b := this.v
  omega
theorem write_spec {C : Cx} {c m : Nat} {s s' : St} {p : Nat} {key : Bs} {leaf : Bool} {lv : Value} {xs : List Ev} {res : List En} (hm : C.mo = some m) (hw : writeS C.N s p key ⟨leaf, esv xs⟩ = some (res, s'))
    {φ : PP} (hx : ∀ I, φ.p I → ∀ x ∈ xs, evJ I x) {ka : Option Addr} {kc : Nat} (hk : ∀ I, φ.p I → RdS I (.slice ka key.length kc) key.length (key.map bv)) (hf : Few xs) (hl : Rds R lv xs.length (elv xs)) (h : sat E w (chg C (c + 1) s * (pers φ * R)))
    (k : ∀ v ys w', esv ys = res → (∀ I, φ.p I → ∀ y ∈ ys, evJ I y) → sat E w' (osl 67 3 v ys.length (elv ys) * (chg C c s' * (pers φ * R))) → K v w') :
    Calls prog 82 #[.pointer (some ⟨C.cb, 0, none⟩), .int .i64 p, .slice ka key.length kc, nv leaf lv] w (Ret K) := by
  unfold writeS at hw
  by_cases hb : (⟨leaf, esv xs⟩ : Nd).bytes ≤ 253
  · rw [if_pos hb] at hw
    obtain ⟨s1, h1, h2⟩ := Option.bind_eq_some_iff.1 hw
    cases h2
    exact write1_spec hm hb h1 hx hk hf hl (chg_le h (Nat.le_succ c)) fun v w hj h => k v [mkE ka kc key p] w rfl hj h
  · rw [if_neg hb] at hw
    obtain ⟨⟨o, s1⟩, h1, hw⟩ := Option.bind_eq_some_iff.1 hw
    simp only at hw
    have hat : halfP ⟨leaf, esv xs⟩ < xs.length := by
      refine Nat.lt_of_not_le fun hle => ?_
      rw [List.drop_eq_nil_of_le (by rw [esv_len]; exact hle)] at hw
      cases hw
    rw [List.drop_eq_getElem_cons (by rw [esv_len]; exact hat)] at hw
    simp only at hw
    obtain ⟨s2, h2, hw⟩ := Option.bind_eq_some_iff.1 hw
    obtain ⟨s3, h3, hw⟩ := Option.bind_eq_some_iff.1 hw
    cases hw
    rw [← List.drop_eq_getElem_cons (by rw [esv_len]; exact hat)] at h3
    refine write2_spec hm hb hat h1 h2 h3 hx hk hf hl h fun v ys w e hj h => ?_
    have hlen : ys.length = 2 := by rw [e]; rfl
    refine k v ys w ?_ hj (by rw [hlen]; exact h)
    rw [e]
    show [(⟨key, [], p⟩ : En), ⟨xs[halfP ⟨leaf, esv xs⟩].e.k, [], o⟩] = _
    rw [esv_at xs hat]
def MendSpec (M : Nat → St → Nd → Nat → Option (Nd × St)) : Prop :=
  ∀ {E : World0} {w : World} {R : HP} {K : Value → World → Prop} {C : Cx} {c m : Nat} {s s' : St} {i : Nat} {lv : Value} {xs : List Ev} {n' : Nd} {φ : PP}, C.mo = some m → M C.N s ⟨false, esv xs⟩ i = some (n', s') → i < xs.length →
    (∀ I, φ.p I → ∀ x ∈ xs, evJ I x) → Few xs → xs.length ≤ 900 → sat E w (osl 67 3 lv xs.length (elv xs) * (chg C (c + 4) s * (pers φ * R))) →
    (∀ lv' ys w', n'.leaf = false → esv ys = n'.l → Few ys → sat E w' (osl 67 3 lv' ys.length (elv ys) * (pers (evP ys) * (chg C c s' * (pers φ * R)))) → K (nv false lv') w') →
    Calls prog 85 #[.pointer (some ⟨C.cb, 0, none⟩), nv false lv, .int .i64 i] w (Ret K)
end Go.Proofs.YtfaeklinhchidaaGreat

/-
  A leaf is changed, and what lies above it.
-/
set_option linter.all false
set_option maxRecDepth 100000
namespace Go.Proofs.YtfaeklinhchidaaGreat
open Go Hold
variable {E : World0} {w : World} {H R X : HP} {K : Value → World → Prop}
theorem writeS_few {N : Nat} {s s' : St} {p : Nat} {key : Bs} {leaf : Bool} {xs ys : List Ev} {res : List En} (hw : writeS N s p key ⟨leaf, esv xs⟩ = some (res, s')) (hf : Few xs) (hk : key.length ≤ 1000) (e : esv ys = res) : Few ys ∧ 1 ≤ ys.length ∧ ys.length ≤ 2 := by
  have key2 : (∃ p', res = [⟨key, [], p'⟩]) ∨ ∃ p' o x, x ∈ xs ∧ res = [⟨key, [], p'⟩, ⟨x.e.k, [], o⟩] := by
    unfold writeS at hw
    by_cases hb : (⟨leaf, esv xs⟩ : Nd).bytes ≤ 253
    · rw [if_pos hb] at hw
      obtain ⟨s1, h1, h2⟩ := Option.bind_eq_some_iff.1 hw
      cases h2
      exact .inl ⟨p, rfl⟩
    · rw [if_neg hb] at hw
      obtain ⟨⟨o, s1⟩, h1, hw⟩ := Option.bind_eq_some_iff.1 hw
      simp only at hw
      have hat : halfP ⟨leaf, esv xs⟩ < xs.length := by
        refine Nat.lt_of_not_le fun hle => ?_
        rw [List.drop_eq_nil_of_le (by rw [esv_len]; exact hle)] at hw
        cases hw
      rw [List.drop_eq_getElem_cons (by rw [esv_len]; exact hat)] at hw
      simp only at hw
      obtain ⟨s2, h2, hw⟩ := Option.bind_eq_some_iff.1 hw
      obtain ⟨s3, h3, hw⟩ := Option.bind_eq_some_iff.1 hw
      cases hw
      refine .inr ⟨p, o, xs[halfP ⟨leaf, esv xs⟩], List.getElem_mem _, ?_⟩
      rw [esv_at xs hat]
  have hl : ys.length = res.length := by rw [← e, esv_len]
  have hall : ∀ y ∈ ys, y.e.k.length ≤ 1000 ∧ y.e.v.length ≤ 1000 := by
    intro y hy
    have hm : y.e ∈ res := by rw [← e]; exact List.mem_map_of_mem hy
    rcases key2 with ⟨p', h⟩ | ⟨p', o, x, hx, h⟩
    · rw [h] at hm
      simp only [List.mem_cons, List.not_mem_nil, or_false] at hm
      rw [hm]; exact ⟨hk, by simp⟩
    · rw [h] at hm
      simp only [List.mem_cons, List.not_mem_nil, or_false] at hm
      rcases hm with hm | hm
      · rw [hm]; exact ⟨hk, by simp⟩
      · rw [hm]; exact ⟨(hf.2 x hx).1, by simp⟩
  rcases key2 with ⟨p', h⟩ | ⟨p', o, x, hx, h⟩
  · rw [h] at hl
    simp only [List.length_cons, List.length_nil] at hl
    exact ⟨⟨by omega, hall⟩, by omega, by omega⟩
  · rw [h] at hl
    simp only [List.length_cons, List.length_nil] at hl
    exact ⟨⟨by omega, hall⟩, by omega, by omega⟩
/-- What is done at the leaf. -/
def LeafSpec (f : Value) (leafF : Nd → Nd) (R : HP) : Prop := ∀ {E : World0} {w : World} {K : Value → World → Prop} {Z : HP} {lv : Value} {xs : List Ev}, NdOk ⟨true, esv xs⟩ → (∃ N s p low r, writeS N s p low (leafF ⟨true, esv xs⟩) = some r) → sat E w (osl 67 3 lv xs.length (elv xs) * (pers (evP xs) * (Z * R))) →
  (∀ lv' ys w', (⟨true, esv ys⟩ : Nd) = leafF ⟨true, esv xs⟩ → Few ys → sat E w' (osl 67 3 lv' ys.length (elv ys) * (pers (evP ys) * (Z * R))) → K (nv true lv') w') → ef prog (oCall f #[nv true lv]) w K
theorem LeafSpec.more {f : Value} {leafF : Nd → Nd} {R : HP} (h : LeafSpec f leafF R) (Y : HP) : LeafSpec f leafF (Y * R) := by
  intro E w K Z lv xs ok wr hs k
  refine h (Z := Z * Y) ok wr (by rw [star_assoc]; exact hs) fun lv' ys w' e hf h' => k lv' ys w' e hf (by rw [star_assoc] at h'; exact h')
theorem at_spec {M : Nat → St → Nd → Nat → Option (Nd × St)} (hM : MendSpec M) {C : Cx} {m : Nat} (hm : C.mo = some m) {f : Value} {leafF : Nd → Nd} {key : Bs} {ka : Option Addr} {kc : Nat} : ∀ (q : Nat) {E : World0} {w : World} {R : HP} {K : Value → World → Prop} {c p : Nat} {s s' : St} {low : Bs} {res : List En} {la : Option Addr} {lc : Nat} {φ : PP},
    atS M C.N leafF key q s p low = some (res, s') → LeafSpec f leafF R → (∀ I, φ.p I → RdS I (.slice ka key.length kc) key.length (key.map bv)) → (∀ I, φ.p I → RdS I (.slice la low.length lc) low.length (low.map bv)) → low.length ≤ 1000 →
    sat E w (chg C (c + 6 * q) s * (pers φ * R)) →
    (∀ v ys w', esv ys = res → Few ys → 1 ≤ ys.length → ys.length ≤ 2 → sat E w' (osl 67 3 v ys.length (elv ys) * (pers (evP ys) * (chg C c s' * (pers φ * R)))) → K v w') →
    Calls prog 51 #[.pointer (some ⟨C.cb, 0, none⟩), .int .i64 p, .slice la low.length lc, .slice ka key.length kc, f] w (Ret K) := by
  intro q
  induction q with
  | zero => intro E w R K c p s s' low res la lc φ hat; cases hat
  | succ q ih =>
    intro E w R K c p s s' low res la lc φ hat hleaf hkey hlow hll h k
    unfold atS at hat
    obtain ⟨n, hn, hat⟩ := Option.bind_eq_some_iff.1 hat
    refine c51 ?_
    unfold B51
    have h := chg_le h (show c + 6 * q + 5 + 1 ≤ c + 6 * (q + 1) by omega)
    refine read_spec hn h fun lv xs w hxs ok h => ?_
    obtain ⟨hfew, hxl⟩ := ok_few ok hxs
    have hnn : n = ⟨n.leaf, esv xs⟩ := by rw [hxs]
    refine alloc_sl h fun n1 w h => ?_
    have h : sat E w (pts n1 (.cells [Value.bool false, .slice none 0 0].toArray 63 (0, 0)) * (osl 67 3 lv xs.length (elv xs) * (pers (evP xs) * (chg C (c + 6 * q + 5) s * (pers φ * R))))) := h
    obtain ⟨a, c1, rfl, hc1, _, _⟩ := osl_shape h.drop
    refine store_all (b := n1) h (vs := [Value.bool n.leaf, .slice a xs.length c1]) rfl rfl (by simp [Value.oneCell']) fun w h => ?_
    have h : sat E w (bxN n1 n.leaf (.slice a xs.length c1) * (osl 67 3 (.slice a xs.length c1) xs.length (elv xs) * (pers (evP xs) * (chg C (c + 6 * q + 5) s * (pers φ * R))))) := h
    simp only [↓opsA, opsB, if_true, if_false, ↓reduceIte]
    refine ld_in (b := n1) (xs := [Value.bool n.leaf, .slice a xs.length c1]) (v := .bool n.leaf) h rfl ?_
    cases hlf : n.leaf
    · rw [hlf] at h hat hnn
      simp only [Bool.false_eq_true, if_false] at hat
      obtain ⟨e, he, hat⟩ := Option.bind_eq_some_iff.1 hat
      obtain ⟨⟨below, s1⟩, hbe, hat⟩ := Option.bind_eq_some_iff.1 hat
      obtain ⟨⟨n', s2⟩, hme, hat⟩ := Option.bind_eq_some_iff.1 hat
      simp only at hat hme
      have hfi : findP n key = findP ⟨false, esv xs⟩ key := by rw [← hnn]
      rw [hfi] at he hme
      simp only [↓opsA, opsB, if_true, if_false, ↓reduceIte]
      refine ld_agg (b := n1) (xs := [Value.bool false, .slice a xs.length c1]) h rfl ?_
      have hkr : ∀ {Y Z : HP}, Rds (Y * (Z * (pers (evP xs) * (chg C (c + 6 * q + 5) s * (pers φ * R))))) (.slice ka key.length kc) key.length (key.map bv) := fun {Y Z} => by
        have : Rds (pers φ * R) (.slice ka key.length kc) key.length (key.map bv) := fun E w hs => hkey _ hs.pers_get
        exact this.right.right.right.right
      refine find_spec (leaf := false) h (Rds.osl.left.right) (fun x hx => ((evP_R x hx).left.right).right) hkr (by rw [hxs]; exact ok.s) (by omega) fun w h => ?_
      generalize (findP ⟨false, esv xs⟩ key).1 = i at *
      have hi : i < xs.length := by
        have := (List.getElem?_eq_some_iff.1 he).1
        rw [← hxs, esv_len] at this; exact this
      have hxe : xs[i].e = e := by
        rw [← hxs] at he
        rw [← esv_at xs hi]; exact (List.getElem?_eq_some_iff.1 he).2
      simp only [↓opsA, opsB, if_true, if_false, ↓reduceIte]
      refine dr_sl h fun w h _ => ?_
      try simp only [↓opsA, opsB, if_true, if_false, ↓reduceIte]
      have hrd : Rds (bxN n1 false (.slice a xs.length c1) * (osl 67 3 (.slice a xs.length c1) xs.length (elv xs) * (pers (evP xs) * (chg C (c + 6 * q + 5) s * (pers φ * R))))) (.slice a xs.length c1) xs.length (elv xs) := Rds.osl.left.right
      refine ld_in (b := n1) (xs := [Value.bool false, .slice a xs.length c1]) (v := .slice a xs.length c1) h rfl ?_
      obtain ⟨b, o, rfl, _⟩ := ld_ev h hrd hi
      rw [o_index (by omega) (by omega)]
      simp only [↓opsA, opsB, if_true, if_false, ↓reduceIte, Int.toNat_natCast]
      have hpg : (elv xs)[i * 3 + 2]? = some (.int .i64 e.pg) := by
        have := take_cell (o := i * 3) (j := 2) (elv_at hi) rfl
        rw [this]; show some (Value.int .i64 (xs[i].e.pg)) = _; rw [hxe]
      have hkv : (elv xs)[i * 3]? = some (.slice xs[i].ka e.k.length xs[i].kc) := by
        have := take_cell (o := i * 3) (j := 0) (elv_at hi) rfl
        rw [Nat.add_zero] at this
        rw [this]; show some xs[i].kv = _; unfold Ev.kv; rw [hxe]
      refine ld_rd h hrd (i * 3 + 2) (by omega) hpg ?_
      refine ld_in (b := n1) (xs := [Value.bool false, .slice (some ⟨b, o, none⟩) xs.length c1]) (v := .slice (some ⟨b, o, none⟩) xs.length c1) h rfl ?_
      rw [o_index (by omega) (by omega)]
      simp only [↓opsA, opsB, if_true, if_false, ↓reduceIte, Int.toNat_natCast, Nat.add_zero]
      refine ld_rd h hrd (i * 3) rfl hkv ?_
      have hrec : sat E w (chg C (c + 5 + 6 * q) s * (pers (φ.and (evP xs)) * ((osl 67 3 (.slice (some ⟨b, o, none⟩) xs.length c1) xs.length (elv xs) * bxN n1 false (.slice (some ⟨b, o, none⟩) xs.length c1)) * R))) := by
        rw [← pers_and, show c + 5 + 6 * q = c + 6 * q + 5 by omega]
        exact h.perm (by ac_rfl)
      refine ih hbe (hleaf.more _) (fun I (hI : (φ.and (evP xs)).p I) => hkey I hI.1) (fun I (hI : (φ.and (evP xs)).p I) => ?_) ?_ hrec fun v ys w hys hfy hy1 hy2 h => ?_
      · have := (hI.2 xs[i] (List.getElem_mem _)).1
        unfold Ev.kv at this; rw [hxe] at this; exact this
      · have := (hfew.2 xs[i] (List.getElem_mem _)).1
        rw [hxe] at this; exact this
      clear hrec hrd hkr
      have hst : ∀ {w : World} {Y : HP}, sat E w (Y * ((osl 67 3 (.slice (some ⟨b, o, none⟩) xs.length c1) xs.length (elv xs) * bxN n1 false (.slice (some ⟨b, o, none⟩) xs.length c1)) * R)) → sat E w (pts n1 (.cells [Value.bool false, .slice (some ⟨b, o, none⟩) xs.length c1].toArray 63 (0, 0)) * (Y * (osl 67 3 (.slice (some ⟨b, o, none⟩) xs.length c1) xs.length (elv xs) * R))) := fun h => h.perm (by unfold bxN; ac_rfl)
      have h := hst (h.perm (show _ = (osl 67 3 v ys.length (elv ys) * (pers (evP ys) * (chg C (c + 5) s1 * pers (φ.and (evP xs))))) * ((osl 67 3 (.slice (some ⟨b, o, none⟩) xs.length c1) xs.length (elv xs) * bxN n1 false (.slice (some ⟨b, o, none⟩) xs.length c1)) * R) by ac_rfl))
      refine st_in (b := n1) (xs := [Value.bool false, .slice (some ⟨b, o, none⟩) xs.length c1]) h rfl ?_
      refine st_in (b := n1) (xs := [Value.bool false, .slice (some ⟨b, o, none⟩) xs.length c1]) h rfl ?_
      try simp only [↓opsA, opsB, if_true, if_false, ↓reduceIte]
      refine ld_in (b := n1) (xs := [Value.bool false, .slice (some ⟨b, o, none⟩) xs.length c1]) (v := .slice (some ⟨b, o, none⟩) xs.length c1) h rfl ?_
      refine CloneE_spec h (Rds.osl.left.right.right) (elv_len xs) (by omega) (elv_one xs) fun v2 w h => ?_
      try simp only [↓opsA, opsB, if_true, if_false, ↓reduceIte]
      rw [i64_of (n := (i : Int) + 1) (by omega) (by omega)]
      have h := h.perm (show _ = osl 67 3 v2 xs.length (elv xs) * (osl 67 3 v ys.length (elv ys) * (pts n1 (.cells [Value.bool false, .slice (some ⟨b, o, none⟩) xs.length c1].toArray 63 (0, 0)) * (pers (evP ys) * (chg C (c + 5) s1 * (pers (φ.and (evP xs)) * (osl 67 3 (.slice (some ⟨b, o, none⟩) xs.length c1) xs.length (elv xs) * R)))))) by ac_rfl)
      refine ReplaceE_spec h hi (by omega) (by omega) (elv_one xs) (elv_one ys) fun v3 w h => ?_
      let zs := xs.take i ++ ys ++ xs.drop (i + 1)
      have hzl : zs.length = xs.length - 1 + ys.length := by
        show (xs.take i ++ ys ++ xs.drop (i + 1)).length = _
        rw [List.length_append, List.length_append, List.length_take, List.length_drop]; omega
      have hzc : (elv xs).take (i * 3) ++ elv ys ++ (elv xs).drop ((i + 1) * 3) = elv zs := by
        show _ = elv (xs.take i ++ ys ++ xs.drop (i + 1))
        rw [elv_app, elv_app]
        have e1 : (elv xs).take (i * 3) = elv (xs.take i) := by
          have : elv xs = elv (xs.take i) ++ elv (xs.drop i) := by rw [← elv_app, List.take_append_drop]
          rw [this, List.take_left' (by rw [elv_len, List.length_take]; omega)]
        have e2 : (elv xs).drop ((i + 1) * 3) = elv (xs.drop (i + 1)) := fm_drop ecells_len xs (i + 1)
        rw [e1, e2]
      have hze : esv zs = (esv xs).take i ++ esv ys ++ (esv xs).drop (i + 1) := by
        show esv (xs.take i ++ ys ++ xs.drop (i + 1)) = _
        unfold esv; simp
      have hzm : ∀ y ∈ zs, y ∈ xs ∨ y ∈ ys := by
        intro y hy
        rcases List.mem_append.1 hy with hy | hy
        · rcases List.mem_append.1 hy with hy | hy
          · exact .inl (List.mem_of_mem_take hy)
          · exact .inr hy
        · exact .inl (List.mem_of_mem_drop hy)
      have hzf : Few zs := ⟨by omega, fun y hy => by
        rcases hzm y hy with hy | hy
        · exact hfew.2 y hy
        · exact hfy.2 y hy⟩
      rw [hzc, ← hzl] at h
      generalize zs = zs at *
      obtain ⟨a3, c3, rfl, _, _, _⟩ := osl_shape h
      have h := h.perm (show _ = pts n1 (.cells [Value.bool false, .slice (some ⟨b, o, none⟩) xs.length c1].toArray 63 (0, 0)) * (osl 67 3 (.slice a3 zs.length c3) zs.length (elv zs) * (pers (evP ys) * (chg C (c + 5) s1 * (pers (φ.and (evP xs)) * (osl 67 3 (.slice (some ⟨b, o, none⟩) xs.length c1) xs.length (elv xs) * R))))) by ac_rfl)
      try simp only [↓opsA, opsB, if_true, if_false, ↓reduceIte]
      refine store_at (b := n1) h rfl (by simp) fun w h => ?_
      refine ld_agg (b := n1) h rfl ?_
      have h := h.perm (show _ = osl 67 3 (.slice a3 zs.length c3) zs.length (elv zs) * (chg C (c + 5) s1 * ((pers (φ.and (evP xs)) * pers (evP ys)) * (pts n1 (.cells [Value.bool false, .slice a3 zs.length c3].toArray 63 (0, 0)) * (osl 67 3 (.slice (some ⟨b, o, none⟩) xs.length c1) xs.length (elv xs) * R)))) by ac_rfl)
      rw [pers_and] at h
      rw [← hxs, ← hys, ← hze] at hme
      have h : sat E w (osl 67 3 (.slice a3 zs.length c3) zs.length (elv zs) * (chg C (c + 1 + 4) s1 * (pers ((φ.and (evP xs)).and (evP ys)) * (pts n1 (.cells [Value.bool false, .slice a3 zs.length c3].toArray 63 (0, 0)) * (osl 67 3 (.slice (some ⟨b, o, none⟩) xs.length c1) xs.length (elv xs) * R))))) := h
      refine hM hm hme (by omega) (fun I (hI : ((φ.and (evP xs)).and (evP ys)).p I) y hy => ?_) hzf (by omega) h fun lv' us w he hus hfu h => ?_
      · rcases hzm y hy with hy | hy
        · exact hI.1.2 y hy
        · exact hI.2 y hy
      have hnl : n' = ⟨false, esv us⟩ := by
        rw [hus, ← he]
      rw [hnl] at hat
      have h := h.perm (show _ = chg C (c + 1) s2 * ((pers ((φ.and (evP xs)).and (evP ys)) * pers (evP us)) * (osl 67 3 lv' us.length (elv us) * (pts n1 (.cells [Value.bool false, .slice a3 zs.length c3].toArray 63 (0, 0)) * (osl 67 3 (.slice (some ⟨b, o, none⟩) xs.length c1) xs.length (elv xs) * R)))) by ac_rfl)
      rw [pers_and] at h
      refine write_spec hm hat (φ := ((φ.and (evP xs)).and (evP ys)).and (evP us)) (fun I hI => hI.2) (fun I hI => hlow I hI.1.1.1) hfu (Rds.osl.left) h fun v4 ts w hts hj h => ?_
      obtain ⟨hft, ht1, ht2⟩ := writeS_few hat hfu hll hts
      refine k v4 ts w hts hft ht1 ht2 ?_
      have h := h.perm (show _ = pers (((φ.and (evP xs)).and (evP ys)).and (evP us)) * (osl 67 3 v4 ts.length (elv ts) * (chg C c s' * (osl 67 3 lv' us.length (elv us) * (pts n1 (.cells [Value.bool false, .slice a3 zs.length c3].toArray 63 (0, 0)) * (osl 67 3 (.slice (some ⟨b, o, none⟩) xs.length c1) xs.length (elv xs) * R))))) by ac_rfl)
      have h := h.pers_new (ψ := evP ts) fun I hI => hj I hI
      have h := (h.perm (star_left_comm _ _ _)).pers_mono (ψ := φ) fun I hI => hI.1.1.1
      have h := h.perm (show _ = osl 67 3 lv' us.length (elv us) * (pts n1 (.cells [Value.bool false, .slice a3 zs.length c3].toArray 63 (0, 0)) * (osl 67 3 (.slice (some ⟨b, o, none⟩) xs.length c1) xs.length (elv xs) * (osl 67 3 v4 ts.length (elv ts) * (pers (evP ts) * (chg C c s' * (pers φ * R)))))) by ac_rfl)
      exact h.drop.drop.drop
    · rw [hlf] at h hat hnn
      simp only [if_true] at hat
      rw [hnn] at hat
      simp only [↓opsA, opsB, if_true, if_false, ↓reduceIte]
      refine ld_agg (b := n1) (xs := [Value.bool true, .slice a xs.length c1]) h rfl ?_
      have h := h.perm (show _ = osl 67 3 (.slice a xs.length c1) xs.length (elv xs) * (pers (evP xs) * ((bxN n1 true (.slice a xs.length c1) * (chg C (c + 6 * q + 5) s * pers φ)) * R)) by ac_rfl)
      have ok2 : NdOk ⟨true, esv xs⟩ := by rw [← hnn]; exact ok
      refine hleaf ok2 ⟨_, _, _, _, _, hat⟩ h fun lv' ys w hys hfy h => ?_
      rw [← hys] at hat
      have h := h.perm (show _ = chg C (c + 6 * q + 5) s * ((pers φ * pers (evP ys)) * (osl 67 3 lv' ys.length (elv ys) * (bxN n1 true (.slice a xs.length c1) * R))) by ac_rfl)
      rw [pers_and] at h
      refine write_spec hm hat (φ := φ.and (evP ys)) (fun I hI => hI.2) (fun I hI => hlow I hI.1) hfy (Rds.osl.left) (chg_le h (show c + 1 ≤ _ by omega)) fun v ts w hts hj h => ?_
      obtain ⟨hft, ht1, ht2⟩ := writeS_few hat hfy hll hts
      refine k v ts w hts hft ht1 ht2 ?_
      have h := h.perm (show _ = pers (φ.and (evP ys)) * (osl 67 3 v ts.length (elv ts) * (chg C c s' * (osl 67 3 lv' ys.length (elv ys) * (bxN n1 true (.slice a xs.length c1) * R)))) by ac_rfl)
      have h := h.pers_new (ψ := evP ts) fun I hI => hj I hI
      have h := (h.perm (star_left_comm _ _ _)).pers_mono (ψ := φ) fun I hI => hI.1
      have h := h.perm (show _ = osl 67 3 lv' ys.length (elv ys) * (bxN n1 true (.slice a xs.length c1) * (osl 67 3 v ts.length (elv ts) * (pers (evP ts) * (chg C c s' * (pers φ * R))))) by ac_rfl)
      exact h.drop.drop
end Go.Proofs.YtfaeklinhchidaaGreat

/-
  The head as a page; a change is kept.
-/
set_option linter.all false
set_option maxRecDepth 100000
namespace Go.Proofs.YtfaeklinhchidaaGreat
open Go Hold
variable {E : World0} {w : World} {H R X : HP} {K : Value → World → Prop}
theorem Search0_spec {a : Option Addr} {c : Nat} {n : Value} (k : K (.tuple #[.int .i64 0, .bool false]) w) : Calls prog 87 #[.slice a 0 c, n] w (Ret K) := by
  refine c87 ?_
  unfold B87
  simp only [↓opsA, opsB, if_true, if_false, ↓reduceIte]
  refine lp_nat (fun q σ w' => σ = [.int .i64 0, .int .i64 0] ∧ w' = w) 0 ⟨rfl, rfl⟩ ?_
  rintro q σ w' again ⟨rfl, rfl⟩ hag
  simp only [↓opsA, opsB, if_true, if_false, ↓reduceIte, show decide ((0 : Int) < 0) = false from rfl, show decide ((0 : Int) < ((0 : Nat) : Int)) = false from rfl]
  exact k
def hdCells (r f s : Nat) : Nat → List Value
  | 0 => [.int .u8 72, .int .u8 84, z8, z8, z8, z8, z8, z8]
  | 1 => [.int .u8 72, .int .u8 84, bv (hi8 r), bv (lo8 r), z8, z8, z8, z8]
  | 2 => [.int .u8 72, .int .u8 84, bv (hi8 r), bv (lo8 r), bv (hi8 f), bv (lo8 f), z8, z8]
  | _ => [.int .u8 72, .int .u8 84, bv (hi8 r), bv (lo8 r), bv (hi8 f), bv (lo8 f), bv (hi8 s), bv (lo8 s)]
theorem headPage_spec (h : sat E w H) {r f s : Nat} (hr : r < 2 ^ 40) (hf : f < 2 ^ 40) (hs : s < 2 ^ 40)
    (k : ∀ b w', sat E w' (pts b (.cells ((PgC.head r f s).bytes.map bv).toArray 5 (0, 0)) * H) → K (.slice (some ⟨b, 0, none⟩) 256 256) w') :
    Calls prog 81 #[.agg [.int .i64 r, .int .i64 f, .int .i64 s].toArray] w (Ret K) := by
  refine c81 ?_
  unfold B81
  refine box_sl h fun h0 w h => ?_
  have h : sat E w (pts h0 (.cells [Value.int .i64 r, .int .i64 f, .int .i64 s].toArray 71 (0, 0)) * H) := h
  refine make_sl h rfl (by omega) (by omega) (by omega) (by omega) fun b w h => ?_
  have h : sat E w (pts b (.cells (z8 :: z8 :: List.replicate 254 z8).toArray 5 (0, 0)) * (pts h0 (.cells [Value.int .i64 r, .int .i64 f, .int .i64 s].toArray 71 (0, 0)) * H)) := h
  simp only [show (256 : Int).toNat = 256 from rfl]
  rw [o_index (by omega) (by omega)]
  simp only [↓opsA, opsB, if_true, if_false, ↓reduceIte, Int.toNat_zero, Nat.zero_mul]
  refine store_at (b := b) h rfl (by simp) fun w h => ?_
  rw [o_index (by omega) (by omega)]
  simp only [↓opsA, opsB, if_true, if_false, ↓reduceIte, show (1 : Int).toNat * 1 = 1 from rfl]
  refine store_at (b := b) h rfl (by simp) fun w h => ?_
  refine ld_in (b := h0) (v := .int .i64 r) h rfl ?_
  try simp only [↓opsA, opsB, if_true, if_false, ↓reduceIte]
  refine ld_in (b := h0) (v := .int .i64 f) h rfl ?_
  try simp only [↓opsA, opsB, if_true, if_false, ↓reduceIte]
  refine ld_in (b := h0) (v := .int .i64 s) h rfl ?_
  refine buildSlice_sl (e := 3) (cs := [Value.int .i64 r, .int .i64 f, .int .i64 s].toArray) h (fun w => by kernel_rfl) fun l0 w h => ?_
  try simp only [↓opsA, opsB, if_true, if_false, ↓reduceIte]
  refine lp_nat (fun q σ w => ∃ i : Nat, σ = [.int .i64 i] ∧ q = 3 - i ∧ i ≤ 3 ∧ sat E w (pts l0 (.cells [Value.int .i64 r, .int .i64 f, .int .i64 s].toArray 3 (0, 0)) * (pts b (.cells (hdCells r f s i ++ List.replicate 248 z8).toArray 5 (0, 0)) * (pts h0 (.cells [Value.int .i64 r, .int .i64 f, .int .i64 s].toArray 71 (0, 0)) * H)))) 3 ⟨0, rfl, rfl, by omega, h⟩ ?_
  clear h
  rintro q σ w again ⟨i, rfl, rfl, hi, h⟩ hag
  try simp only [↓opsA, opsB, if_true, if_false, ↓reduceIte]
  refine cd_dec (fun hlt => ?_) (fun hge => ?_)
  · have hlt : i < 3 := by omega
    rw [o_index (by omega) (by omega)]
    simp only [Int.toNat_natCast, Nat.mul_one]
    obtain ⟨u, hu, hiu, hset⟩ : ∃ u : Nat, u < 2 ^ 40 ∧ [Value.int .i64 r, .int .i64 f, .int .i64 s][i]? = some (.int .i64 u) ∧ ((hdCells r f s i ++ List.replicate 248 z8).set (2 + 2 * i) (bv (hi8 u))).set (3 + 2 * i) (bv (lo8 u)) = hdCells r f s (i + 1) ++ List.replicate 248 z8 := by
      rcases (by omega : i = 0 ∨ i = 1 ∨ i = 2) with rfl | rfl | rfl
      · exact ⟨r, hr, rfl, rfl⟩
      · exact ⟨f, hf, rfl, rfl⟩
      · exact ⟨s, hs, rfl, rfl⟩
    have hlen : (hdCells r f s i ++ List.replicate 248 z8).length = 256 := by
      rw [List.length_append, List.length_replicate]
      have : (hdCells r f s i).length = 8 := by
        unfold hdCells; split <;> rfl
      omega
    refine ld_in (b := l0) h (by rw [Nat.zero_add]; exact hiu) ?_
    try simp only [↓opsA, opsB, if_true, if_false, ↓reduceIte]
    rw [i64_of (n := 2 * (i : Int)) (by omega) (by omega), i64_of (n := 2 + 2 * (i : Int)) (by omega) (by omega), i64_of (n := 3 + 2 * (i : Int)) (by omega) (by omega), o_shr8 (by omega)]
    try simp only [↓opsA, opsB, if_true, if_false, ↓reduceIte]
    rw [bv_lo, bv_lo, show 2 + 2 * (i : Int) = ((2 + 2 * i : Nat) : Int) by omega, show 3 + 2 * (i : Int) = ((3 + 2 * i : Nat) : Int) by omega]
    rw [o_index (by omega) (by omega)]
    simp only [Int.toNat_natCast, Nat.mul_one, Nat.zero_add]
    have h := h.own b
    refine store_sl h rfl (by omega) fun w h => ?_
    rw [o_index (by omega) (by omega)]
    simp only [Int.toNat_natCast, Nat.mul_one, Nat.zero_add]
    refine store_sl h rfl (by rw [List.length_set]; omega) fun w h => ?_
    try simp only [↓opsA, opsB, if_true, if_false, ↓reduceIte]
    rw [i64_of (n := (i : Int) + 1) (by omega) (by omega)]
    refine hag (3 - (i + 1)) _ _ (by omega) ⟨i + 1, rfl, rfl, by omega, ?_⟩
    have h : sat E w (pts b (.cells (((hdCells r f s i ++ List.replicate 248 z8).set (2 + 2 * i) (bv (hi8 u))).set (3 + 2 * i) (bv (lo8 u))).toArray 5 (0, 0)) * (pts l0 (.cells [Value.int .i64 r, .int .i64 f, .int .i64 s].toArray 3 (0, 0)) * (pts h0 (.cells [Value.int .i64 r, .int .i64 f, .int .i64 s].toArray 71 (0, 0)) * H))) := h
    rw [hset] at h
    exact h.perm (star_left_comm _ _ _)
  · have : i = 3 := by omega
    subst this
    have h := h.drop
    refine k b w ?_
    have e1 : (PgC.head r f s).bytes.map bv = hdCells r f s 3 ++ List.replicate 248 z8 := by
      unfold PgC.bytes pad
      simp [z8, bv, hdCells]
    rw [e1]
    have h : sat E w (pts b (.cells (hdCells r f s 3 ++ List.replicate 248 z8).toArray 5 (0, 0)) * (pts h0 (.cells [Value.int .i64 r, .int .i64 f, .int .i64 s].toArray 71 (0, 0)) * H)) := h
    exact (h.perm (star_left_comm _ _ _)).drop
theorem pX_ext {A : Ad} {N : Nat} {ct ct' : Nat → PgC} {d k c : Nat} (h : sat E w (pX A N ct d k c * R)) (he : ∀ p, p < N → (ct p).bytes = (ct' p).bytes) : sat E w (pX A N ct' d k c * R) := by
  obtain ⟨P, gs, x, h⟩ := sat_pX.1 h
  exact sat_pX.2 ⟨P, gs, ⟨x.ok, x.sz, x.pg, x.g, x.wl, x.hm, x.dl, fun n hn => (x.v n hn).trans (he n hn)⟩, h⟩
theorem keep_spec {C : Cx} {c m : Nat} {s s' : St} (hm : C.mo = some m) (hr : putS C.N s 0 (.head s.root s.free s.fresh) = some s') (hw : s'.w ≤ 100) (h1 : s.root < 2 ^ 40) (h2 : s.free < 2 ^ 40) (h3 : s.fresh < 2 ^ 40) (h : sat E w (chg C c s * R))
    (k : ∀ w', sat E w' (pts C.tb (.cells [Value.int .i64 s'.root, .int .i64 s'.free, .int .i64 s'.fresh, .pointer (some ⟨C.A.q, 0, none⟩)].toArray 73 (0, 0)) * (pX C.A C.N s'.cc 100 C.kk c * R)) → (∀ p, p < C.N → (s'.cc p).Ok) → K (.int .i64 0) w') :
    Calls prog 54 #[.pointer (some ⟨C.tb, 0, none⟩), .pointer (some ⟨C.cb, 0, none⟩)] w (Ret K) := by
  obtain ⟨hp0, hy, hs'⟩ := putS_some hr
  refine c54 ?_
  unfold B54
  refine dr_sl h fun w h _ => ?_
  simp only [↓opsA, opsB, if_true, if_false, ↓reduceIte]
  refine ld_in (b := C.cb) (v := .map C.mo) (sat_chg.1 h) rfl ?_
  refine ld_part (b := C.cb) (xs := ccells C s) (o := 0) (sat_chg.1 h) [.int .i64 s.root, .int .i64 s.free, .int .i64 s.fresh] rfl rfl ?_
  refine headPage_spec h h1 h2 h3 fun b w h => ?_
  have hcb : ∀ {w : World} {Y : HP} {s : St}, sat E w (Y * (chg C c s * R)) → sat E w (pts C.cb (.cells (ccells C s).toArray 124 (0, 0)) * (pts C.tb (.cells (tcells C).toArray 73 (0, 0)) * (chM C.mo C.N C.ct s.cc s.w * (pX C.A C.N C.ct 0 C.kk c * (Y * R))))) := fun h => sat_chg.1 (h.perm (star_left_comm _ _ _))
  refine st_in (b := C.cb) (xs := ccells C s) (hcb h) rfl ?_
  have h := row_stay (PgC.len (x := .head s.root s.free s.fresh) hy) h
  refine chg_put hm hr h fun w h => ?_
  try simp only [↓opsA, opsB, if_true, if_false, ↓reduceIte]
  have h := sat_chg.1 h
  rw [hm] at h
  have h := h.perm (show _ = chM (some m) C.N C.ct s'.cc s'.w * (pts C.cb (.cells (ccells C s').toArray 124 (0, 0)) * (pts C.tb (.cells (tcells C).toArray 73 (0, 0)) * (pX C.A C.N C.ct 0 C.kk c * R))) by ac_rfl)
  obtain ⟨ds, D, ok, h⟩ := sat_chM.1 h
  have hrel : relM (hp w) ds D := (h.split (pers (immM ds D))).pers_get
  have hdl : ds.length ≤ 100 := by have := ok.len; rw [hrel.len]; omega
  refine ld_in (b := C.tb) (v := .pointer (some ⟨C.A.q, 0, none⟩)) h rfl ?_
  have h := h.perm (show _ = pX C.A C.N C.ct 0 C.kk c * (omap m ds * (pers (immM ds D) * (pts C.cb (.cells (ccells C s').toArray 124 (0, 0)) * (pts C.tb (.cells (tcells C).toArray 73 (0, 0)) * R)))) by ac_rfl)
  refine XDirty_spec h fun u w h => ?_
  obtain ⟨ua, uc, rfl, _, _, _⟩ := osl_shape h
  have h := h.drop
  simp only [↓opsA, opsB, if_true, if_false, ↓reduceIte]
  refine ld_in (b := C.cb) (v := .map C.mo) h rfl ?_
  rw [hm]
  refine range_sl (b := m) h fun it w h => ?_
  refine lp_nat (fun q σ w => ∃ (n : Nat) (rest : List (Int × Value)), σ = [.int .i64 n] ∧ q = rest.length ∧ n + rest.length ≤ ds.length ∧ sat E w (omit_ it m ds rest * (pX C.A C.N C.ct 0 C.kk c * (pers (immM ds D) * (pts C.cb (.cells (ccells C s').toArray 124 (0, 0)) * (pts C.tb (.cells (tcells C).toArray 73 (0, 0)) * R)))))) ds.length ⟨0, ds, rfl, rfl, by omega, h⟩ ?_
  clear h
  rintro q σ w again ⟨n, rest, rfl, rfl, hnr, h⟩ hag
  try simp only [↓opsA, opsB, if_true, if_false, ↓reduceIte]
  refine next_sl (i := it) (b := m) (l := ds) (rest := rest) h (fun h0 => ?_) (fun j x w hj hen h => ?_)
  · rw [o_extract, cd_false]
    have hgt : ¬ (100 : Int) < (n : Int) := by omega
    simp only [hgt, ↓opsA, opsB, if_true, if_false, ↓reduceIte]
    have h := omit_close h
    refine ld_in (b := C.cb) (v := .map C.mo) h rfl ?_
    rw [hm]
    refine range_sl (b := m) h fun it2 w h => ?_
    refine lp_nat (fun q σ w => ∃ (rest : List (Int × Value)) (ctj : Nat → PgC), σ = [] ∧ q = rest.length ∧ rest.length ≤ ds.length ∧ (∀ x ∈ rest, x ∈ ds) ∧ (∀ p, p < C.N → (p : Int) ∉ rest.map (·.1) → (ctj p).bytes = (s'.cc p).bytes) ∧
      sat E w (omit_ it2 m ds rest * (pX C.A C.N ctj (ds.length - rest.length) C.kk c * (pers (immM ds D) * (pts C.cb (.cells (ccells C s').toArray 124 (0, 0)) * (pts C.tb (.cells (tcells C).toArray 73 (0, 0)) * R)))))) ds.length ⟨ds, C.ct, rfl, rfl, by omega, fun x hx => hx, fun p hpN hnk => ?_, by rw [Nat.sub_self]; exact h⟩ ?_
    · rw [hrel.keys] at hnk
      exact (look_ok ok hpN).1 (lookB_none.2 hnk)
    clear h hag
    rintro q σ w again ⟨rest, ctj, rfl, rfl, hrl, hrm, hctj, h⟩ hag
    try simp only [↓opsA, opsB, if_true, if_false, ↓reduceIte]
    refine next_sl (i := it2) (b := m) (l := ds) (rest := rest) h (fun h0 => ?_) (fun j x w hj hen h => ?_)
    · rw [o_extract, cd_false]
      refine ld_part (b := C.cb) (xs := ccells C s') (o := 0) h [.int .i64 s'.root, .int .i64 s'.free, .int .i64 s'.fresh] rfl rfl ?_
      have h := (omit_close h).own C.tb
      refine store_part (b := C.tb) h (xs := tcells C) (vs := [.int .i64 s'.root, .int .i64 s'.free, .int .i64 s'.fresh]) [Value.int .i64 s'.root, .int .i64 s'.free, .int .i64 s'.fresh, .pointer (some ⟨C.A.q, 0, none⟩)] rfl (by simp [Value.oneCell']) (by simp [tcells]) rfl fun w h => ?_
      subst h0
      refine k w ?_ ok.ok
      have h := h.perm (show _ = pX C.A C.N ctj (ds.length - ([] : List (Int × Value)).length) C.kk c * (omap m ds * (pers (immM ds D) * (pts C.cb (.cells (ccells C s').toArray 124 (0, 0)) * (pts C.tb (.cells [Value.int .i64 s'.root, .int .i64 s'.free, .int .i64 s'.fresh, .pointer (some ⟨C.A.q, 0, none⟩)].toArray 73 (0, 0)) * R)))) by ac_rfl)
      have h := pX_ext h (fun p hpN => hctj p hpN (by simp))
      have h := pX_le h (d' := 100) (by simp only [List.length_nil]; omega) (Nat.le_refl _) (Nat.le_refl _)
      have h := h.perm (show _ = omap m ds * (pers (immM ds D) * (pts C.cb (.cells (ccells C s').toArray 124 (0, 0)) * (pts C.tb (.cells [Value.int .i64 s'.root, .int .i64 s'.free, .int .i64 s'.fresh, .pointer (some ⟨C.A.q, 0, none⟩)].toArray 73 (0, 0)) * (pX C.A C.N s'.cc 100 C.kk c * R)))) by ac_rfl)
      exact h.drop.drop.drop
    · rw [o_extract, cd_true]
      refine efv_of hen ?_
      rw [o_extract, o_extract]
      have hlt := (List.getElem?_eq_some_iff.1 hj).1
      have hxm : x ∈ ds := hrm x (List.mem_of_getElem? hj)
      obtain ⟨bb, hbD, _⟩ := hrel.mem x hxm
      obtain ⟨⟨hx0, hxN⟩, y, hyok, hyb⟩ := ok.mem _ hbD
      simp only at hx0 hxN hyb
      obtain ⟨p, hxp⟩ := Int.eq_ofNat_of_zero_le hx0
      have hpN : p < C.N := by omega
      have hbl : bb.length = 256 := by rw [hyb]; exact PgC.len hyok
      have hbc : bb = (s'.cc p).bytes := (look_ok ok hpN).2 bb (by rw [← hxp]; exact lookB_of ok.nd hbD)
      refine ld_in (b := C.tb) (v := .pointer (some ⟨C.A.q, 0, none⟩)) h rfl ?_
      have h := h.perm (show _ = pX C.A C.N ctj (ds.length - rest.length) C.kk c * (pers (immM ds D) * (omit_ it2 m ds (rest.eraseIdx j) * (pts C.cb (.cells (ccells C s').toArray 124 (0, 0)) * (pts C.tb (.cells (tcells C).toArray 73 (0, 0)) * R)))) by ac_rfl)
      rw [hxp]
      refine XWrite_spec h hpN (y := s'.cc p) (ok.ok p hpN) (by omega) (v := x.2) (fun E w hs => ?_) fun w h => ?_
      · have hr2 : relM (hp w) ds D := hs.pers_get
        obtain ⟨b2, hb2, hr3⟩ := hr2.mem x hxm
        have hb2c : b2 = (s'.cc p).bytes := (look_ok ok hpN).2 b2 (by rw [← hxp]; exact lookB_of ok.nd hb2)
        have hl2 : b2.length = 256 := by rw [hb2c]; exact PgC.len (ok.ok p hpN)
        rw [hl2, hb2c] at hr3
        exact hr3
      · refine hag (rest.eraseIdx j).length _ _ (by rw [List.length_eraseIdx, if_pos hlt]; omega) ⟨rest.eraseIdx j, upd ctj p (s'.cc p), rfl, rfl, by rw [List.length_eraseIdx, if_pos hlt]; omega, fun z hz => hrm z (List.mem_of_mem_eraseIdx hz), fun q hqN hqk => ?_, ?_⟩
        · unfold upd
          by_cases e : q = p
          · subst e; rw [if_pos rfl]
          · rw [if_neg e]
            refine hctj q hqN fun hin => hqk ?_
            obtain ⟨z, hz, hzq⟩ := List.mem_map.1 hin
            refine List.mem_map.2 ⟨z, ?_, hzq⟩
            rw [List.mem_eraseIdx_iff_getElem?]
            obtain ⟨i, hi, hzi⟩ := List.getElem_of_mem hz
            refine ⟨i, ?_, by rw [List.getElem?_eq_getElem hi, hzi]⟩
            intro eij
            subst eij
            have : x = z := by
              have e2 := (List.getElem?_eq_some_iff.1 hj).2
              rw [← e2, ← hzi]
            rw [← this, hxp] at hzq
            omega
        · rw [List.length_eraseIdx, if_pos hlt, show ds.length - (rest.length - 1) = ds.length - rest.length + 1 by omega]
          exact h.perm (by ac_rfl)
  · rw [o_extract, cd_true]
    refine efv_of hen ?_
    rw [o_extract]
    have hlt := (List.getElem?_eq_some_iff.1 hj).1
    refine Search0_spec ?_
    simp only [↓opsA, opsB, if_true, if_false, ↓reduceIte]
    rw [i64_of (n := (n : Int) + 1) (by omega) (by omega)]
    exact hag (rest.eraseIdx j).length _ _ (by rw [List.length_eraseIdx, if_pos hlt]; omega) ⟨n + 1, rest.eraseIdx j, rfl, rfl, by rw [List.length_eraseIdx, if_pos hlt]; omega, h⟩
end Go.Proofs.YtfaeklinhchidaaGreat

/-
  What was deferred, where nothing panics: it finds nothing to recover.
-/
set_option linter.all false
set_option maxRecDepth 100000
namespace Go.Proofs.YtfaeklinhchidaaGreat
open Go Hold
theorem nil_eq (w : World) : (binOp BinOp.eql 20 .nilIface .nilIface).run prog w = .ok (.bool true) w := by kernel_rfl
theorem do1_calls {e0 : Value} {w : World} {K : World → Prop} (k : K w) : CallsD prog 48 #[e0] .returning w fun e u w' => (∃ x, e = .returned x) ∧ u = .returning ∧ K w' := by
  have hn := nil_eq w
  refine callsD_of_wpS Tryz.func48 rfl fun c₀ cs hu => ?_
  refine wpS_seq (wpS_region ?_)
  simp [wpOpsS, go_sem, recoverD, hu, Tryz.ntmps48, Exit.thenS]
  refine wpS_of_wp ?_
  refine wp_block (wp_seq (wp_region ?_))
  simp [wpOps, go_sem, hn, Exit.then]
  refine .inl ?_
  refine wp_cond_true (by simp [Act.eval, Array.replicate]) (wp_region ?_)
  simp [wpOps, go_sem, Exit.then]
  refine .inl ?_
  cases c₀
  simp_all [bodyPostS, results, Tryz.results48, Exit.thenS, go_sem]
theorem check1_calls {e0 e1 : Value} {w : World} {K : World → Prop} (k : K w) : CallsD prog 24 #[e0, e1] .returning w fun e u w' => (∃ x, e = .returned x) ∧ u = .returning ∧ K w' := by
  have hn := nil_eq w
  refine callsD_of_wpS Tryz.func24 rfl fun c₀ cs hu => ?_
  refine wpS_seq (wpS_region ?_)
  simp [wpOpsS, go_sem, recoverD, hu, Tryz.ntmps24, Exit.thenS]
  refine wpS_of_wp ?_
  refine wp_block (wp_seq (wp_region ?_))
  simp [wpOps, go_sem, hn, Exit.then]
  refine .inl ?_
  refine wp_cond_true (by simp [Act.eval, Array.replicate]) (wp_region ?_)
  simp [wpOps, go_sem, Exit.then]
  refine .inl ?_
  cases c₀
  simp_all [bodyPostS, results, Tryz.results24, Exit.thenS, go_sem]
theorem dfr_do {b : Nat} {w : World} {K : World → Prop} (k : K w) : dfr prog (.func (.func 48) #[] #[.pointer (some ⟨b, 0, none⟩)]) w K :=
  ⟨48, #[.pointer (some ⟨b, 0, none⟩)], by kernel_rfl, do1_calls k⟩
theorem dfr_check {b c : Nat} {w : World} {K : World → Prop} (k : K w) : dfr prog (.func (.func 24) #[] #[.pointer (some ⟨b, 0, none⟩), .pointer (some ⟨c, 0, none⟩)]) w K :=
  ⟨24, #[.pointer (some ⟨b, 0, none⟩), .pointer (some ⟨c, 0, none⟩)], by kernel_rfl, check1_calls k⟩
end Go.Proofs.YtfaeklinhchidaaGreat

/-
  A change is done.
-/
set_option linter.all false
set_option maxRecDepth 100000
namespace Go.Proofs.YtfaeklinhchidaaGreat
open Go Hold
variable {E : World0} {w : World} {H R X : HP} {K : Value → World → Prop}
/-- A tree as it is held. -/
def trT (tb : Nat) (A : Ad) (N : Nat) (s : St) (d k c : Nat) : HP := pts tb (.cells [Value.int .i64 s.root, .int .i64 s.free, .int .i64 s.fresh, .pointer (some ⟨A.q, 0, none⟩)].toArray 73 (0, 0)) * pX A N s.cc d k c
theorem chg_rooted {C : Cx} {c : Nat} {s : St} {r : Nat} (h : sat E w (chg C c s * R)) (k : ∀ w', sat E w' (chg C c { s with root := r } * R) → K undef w') :
    efu prog (Instr.storeAt 3 (.pointer (some ⟨C.cb, 0, none⟩)) (.int .i64 r)) w K := by
  have h : sat E w (pts C.cb (.cells [Value.int .i64 s.root, .int .i64 s.free, .int .i64 s.fresh, .pointer (some ⟨C.tb, 0, none⟩), .map C.mo].toArray 124 (0, 0)) * _) := sat_chg.1 h
  refine store_at (b := C.cb) h rfl (by simp) fun w h => ?_
  exact k w (sat_chg.2 h)
/-- A new root. -/
theorem newRoot {C : Cx} {c m r : Nat} {s s' : St} {parts : Array (Nat × Value)} (hm : C.mo = some m) {leaf : Bool} {lv : Value} {xs : List Ev} (hl : Rds R lv xs.length (elv xs)) (hb : ∀ w, (Instr.build 63 parts).run prog w = .ok (nv leaf lv) w) (hx : ∀ x ∈ xs, EvR R x) (hr : putS C.N { s with root := r } r (.node ⟨leaf, esv xs⟩) = some s')
    (h : sat E w (chg C c s * R)) {T : World → Prop} (k : ∀ w', sat E w' (chg C c s' * R) → T w') :
    efu prog (Instr.storeAt 3 (.pointer (some ⟨C.cb, 0, none⟩)) (.int .i64 r)) w fun u_63 w =>
      dr w fun w =>
      pv prog (oNil (.pointer (some ⟨C.cb, 0, none⟩))) w fun t_64 w =>
      pvv prog (Instr.fieldAt 124 t_64 2) w fun t_65 w =>
      pv prog (oNil (.pointer (some ⟨C.cb, 0, none⟩))) w fun t_66 w =>
      pvv prog (Instr.fieldAt 124 t_66 0) w fun t_67 w =>
      pvv prog (Instr.fieldAt 71 t_67 0) w fun t_68 w =>
      pvv prog (Instr.build 63 parts) w fun t_69 w =>
      bindS (vN (Instr.loadAt 117 t_65)) fun m_71 => ldv prog (Instr.loadAt 117 t_65) w fun t_70 w =>
      bindS (vN (Instr.loadAt 3 t_68)) fun m_73 => ldv prog (Instr.loadAt 3 t_68) w fun t_72 w =>
      Calls prog 50 #[t_69] w (Ret fun t_74 w => stay prog none m_73 t_72 w <| stay prog none m_71 t_70 w <|
      efu prog (Instr.mapUpdate 117 t_70 t_72 t_74) w fun u_75 w => T w) := by
  obtain ⟨hp1, hy, _⟩ := putS_some hr
  refine chg_rooted h fun w h => ?_
  refine dr_sl h fun w h _ => ?_
  simp only [↓opsA, opsB, if_true, if_false, ↓reduceIte]
  refine pvv_of hb ?_
  refine ld_in (b := C.cb) (v := .map C.mo) (sat_chg.1 h) rfl ?_
  refine ld_in (b := C.cb) (v := .int .i64 r) (sat_chg.1 h) rfl ?_
  refine page_spec h hl.right (fun x hm => (hx x hm).right) hy fun b w h => ?_
  have hcb : ∀ {w : World} {Y : HP}, sat E w (Y * (chg C c { s with root := r } * R)) → sat E w (pts C.cb (.cells (ccells C { s with root := r }).toArray 124 (0, 0)) * (pts C.tb (.cells (tcells C).toArray 73 (0, 0)) * (chM C.mo C.N C.ct s.cc s.w * (pX C.A C.N C.ct 0 C.kk c * (Y * R))))) := fun h => sat_chg.1 (h.perm (star_left_comm _ _ _))
  refine st_in (b := C.cb) (xs := ccells C { s with root := r }) (hcb h) rfl ?_
  refine st_in (b := C.cb) (xs := ccells C { s with root := r }) (hcb h) rfl ?_
  have h := row_stay (PgC.len (x := .node ⟨leaf, esv xs⟩) hy) h
  exact chg_put hm hr h fun w h => k w h
theorem do_spec {M : Nat → St → Nd → Nat → Option (Nd × St)} (hM : MendSpec M) {tb : Nat} {A : Ad} {N : Nat} (hN : N ≤ 1000) {k0 c : Nat} {s s' : St} {f : Value} {leafF : Nd → Nd} {key : Bs} {ka : Option Addr} {kc : Nat} {φ : PP}
    (hd : doS M N leafF key s = some s') (hw0 : s.w = 0) (hok : ∀ p, p < N → (s.cc p).Ok) (hleaf : LeafSpec f leafF R) (hkey : ∀ I, φ.p I → RdS I (.slice ka key.length kc) key.length (key.map bv))
    (h : sat E w (trT tb A N s 0 k0 (c + 30) * (pers φ * R))) (k : ∀ w', sat E w' (trT tb A N s' 100 k0 c * (pers φ * R)) → (∀ p, p < N → (s'.cc p).Ok) → K (.int .i64 0) w') :
    Calls prog 19 #[.pointer (some ⟨tb, 0, none⟩), .slice ka key.length kc, f] w (Ret K) := by
  unfold doS at hd
  obtain ⟨s1, hs1, hd⟩ := Option.bind_eq_some_iff.1 hd
  obtain ⟨⟨up, s2⟩, hs2, hd⟩ := Option.bind_eq_some_iff.1 hd
  simp only at hd hs2
  obtain ⟨s3, hs3, hd⟩ := Option.bind_eq_some_iff.1 hd
  obtain ⟨s4, hs4, hd⟩ := Option.bind_eq_some_iff.1 hd
  refine c19 ?_
  unfold B19
  refine alloc_sl h fun e0 w h => ?_
  have h : sat E w (pts e0 (.cells [Value.int .i64 0].toArray 24 (0, 0)) * (trT tb A N s 0 k0 (c + 30) * (pers φ * R))) := h
  rw [o_nil, o_field]
  refine ld_part (b := tb) (xs := [Value.int .i64 s.root, .int .i64 s.free, .int .i64 s.fresh, .pointer (some ⟨A.q, 0, none⟩)]) (o := 0) (h.perm (show _ = pts tb (.cells [Value.int .i64 s.root, .int .i64 s.free, .int .i64 s.fresh, .pointer (some ⟨A.q, 0, none⟩)].toArray 73 (0, 0)) * (pX A N s.cc 0 k0 (c + 30) * (pts e0 (.cells [Value.int .i64 0].toArray 24 (0, 0)) * (pers φ * R))) by unfold trT; ac_rfl)) [Value.int .i64 s.root, .int .i64 s.free, .int .i64 s.fresh] rfl rfl ?_
  refine make_map h fun m w h => ?_
  refine pvv_of (v := .agg [Value.int .i64 s.root, .int .i64 s.free, .int .i64 s.fresh, .pointer (some ⟨tb, 0, none⟩), .map (some m)].toArray) (fun w => by kernel_rfl) ?_
  refine box_sl h fun cb w h => ?_
  have h : sat E w (pts cb (.cells [Value.int .i64 s.root, .int .i64 s.free, .int .i64 s.fresh, .pointer (some ⟨tb, 0, none⟩), .map (some m)].toArray 124 (0, 0)) * (omap m [] * (pts e0 (.cells [Value.int .i64 0].toArray 24 (0, 0)) * (trT tb A N s 0 k0 (c + 30) * (pers φ * R))))) := h
  refine pvv_of (v := .func (.func 48) #[] #[.pointer (some ⟨e0, 0, none⟩)]) (fun w => by kernel_rfl) ?_
  refine ⟨trivial, ?_⟩
  let C : Cx := ⟨cb, tb, some m, A, N, s.cc, (s.root, s.free, s.fresh), k0, hN⟩
  have hm : C.mo = some m := rfl
  have h : sat E w (chg C (c + 30) s * (pts e0 (.cells [Value.int .i64 0].toArray 24 (0, 0)) * (pers φ * R))) := by
    refine sat_chg.2 ?_
    have h2 : sat E w (chM (some m) N s.cc s.cc s.w * (pts cb (.cells [Value.int .i64 s.root, .int .i64 s.free, .int .i64 s.fresh, .pointer (some ⟨tb, 0, none⟩), .map (some m)].toArray 124 (0, 0)) * (pts tb (.cells [Value.int .i64 s.root, .int .i64 s.free, .int .i64 s.fresh, .pointer (some ⟨A.q, 0, none⟩)].toArray 73 (0, 0)) * (pX A N s.cc 0 k0 (c + 30) * (pts e0 (.cells [Value.int .i64 0].toArray 24 (0, 0)) * (pers φ * R)))))) := by
      refine sat_chM.2 ⟨[], [], ⟨by simp, fun x hx => by simp at hx, by simp, fun p hpN => rfl, hok⟩, ?_⟩
      refine (h.perm (show _ = omap m [] * (pts cb (.cells [Value.int .i64 s.root, .int .i64 s.free, .int .i64 s.fresh, .pointer (some ⟨tb, 0, none⟩), .map (some m)].toArray 124 (0, 0)) * (pts tb (.cells [Value.int .i64 s.root, .int .i64 s.free, .int .i64 s.fresh, .pointer (some ⟨A.q, 0, none⟩)].toArray 73 (0, 0)) * (pX A N s.cc 0 k0 (c + 30) * (pts e0 (.cells [Value.int .i64 0].toArray 24 (0, 0)) * (pers φ * R))))) by unfold trT; ac_rfl)).mono fun I h' hp' => ?_
      rw [star_left_comm, pers_star_p]
      exact ⟨trivial, hp'⟩
    exact h2.perm (show _ = pts cb (.cells [Value.int .i64 s.root, .int .i64 s.free, .int .i64 s.fresh, .pointer (some ⟨tb, 0, none⟩), .map (some m)].toArray 124 (0, 0)) * (pts tb (.cells [Value.int .i64 s.root, .int .i64 s.free, .int .i64 s.fresh, .pointer (some ⟨A.q, 0, none⟩)].toArray 73 (0, 0)) * (chM (some m) N s.cc s.cc s.w * (pX A N s.cc 0 k0 (c + 30) * (pts e0 (.cells [Value.int .i64 0].toArray 24 (0, 0)) * (pers φ * R))))) by ac_rfl)
  have hCb : cb = C.cb := rfl
  have hCN : N = C.N := rfl
  have hCt : tb = C.tb := rfl
  have hCA : A = C.A := rfl
  have hCk : k0 = C.kk := rfl
  rw [hCN] at hd hs1 hs2 hs3 hs4
  generalize hF : pts e0 (.cells [Value.int .i64 0].toArray 24 (0, 0)) * (pers φ * R) = F at h
  have hek : ∀ {w : World} {v : Value} {Y : HP}, v.oneCell' = true → sat E w (Y * F) → ∀ {K' : Value → World → Prop}, (∀ w', sat E w' (Y * (pers φ * R)) → K' v w') → efu prog (Instr.storeAt 24 (.pointer (some ⟨e0, 0, none⟩)) v) w fun u_54 w =>
        dfr prog (.func (.func 48) #[] #[.pointer (some ⟨e0, 0, none⟩)]) w fun w => ∃ r_55, (do loadVar 24 (← asAddr (.pointer (some ⟨e0, 0, none⟩)))).run prog w = .ok r_55 w ∧ K' r_55 w := fun {w v Y} hv h {K'} kk => by
    subst hF
    have h := h.perm (show _ = pts e0 (.cells [Value.int .i64 0].toArray 24 (0, 0)) * (Y * (pers φ * R)) by ac_rfl)
    refine store_at (b := e0) h hv (by simp) fun w h => ?_
    refine dfr_do ?_
    exact res_one (b := e0) h rfl (kk w h.drop)
  have hFR : ∀ {v : Value} {n : Nat} {zs : List Value}, Rds R v n zs → Rds F v n zs := fun hr => by subst hF; exact hr.right.right
  have hk1 : ∀ {K' : Value → World → Prop}, (∀ w', sat E w' (trT tb A N s' 100 k0 c * (pers φ * R)) → K' (.int .i64 0) w') → True := fun _ => trivial
  clear hk1
  refine jn_cut (fun σ w => σ = [] ∧ sat E w (chg C (c + 29) s1 * F)) ?_ ?_
  · intro kk hkk
    clear hek
    rw [hCb, o_nil, o_field, o_field]
    refine ld_in (b := C.cb) (v := .int .i64 s.root) (sat_chg.1 h) rfl ?_
    rw [o_eqInt]
    unfold startS at hs1
    by_cases h0 : s.root = 0
    · rw [if_pos h0] at hs1
      obtain ⟨⟨r, sa⟩, hs1a, hs1b⟩ := Option.bind_eq_some_iff.1 hs1
      have h0' : (s.root : Int) = 0 := by omega
      simp only [h0', decide_true, cd_true]
      refine take_spec hs1a h fun w h => ?_
      rw [o_nil, o_field, o_field]
      have hs1b : putS C.N { sa with root := r } r (.node ⟨true, []⟩) = some s1 := hs1b
      refine newRoot hm (leaf := true) (lv := .slice none 0 0) (xs := []) (hb := fun w => by kernel_rfl) (fun E w hs => ⟨none, 0, rfl, Nat.le_refl _, .inl rfl⟩) (fun x hx => by simp at hx) hs1b h fun w h => ?_
      exact hkk _ _ ⟨rfl, h⟩
    · rw [if_neg h0] at hs1
      cases hs1
      have h0' : ¬ (s.root : Int) = 0 := by omega
      simp only [h0', decide_false, cd_false]
      exact hkk _ _ ⟨rfl, chg_le h (by omega)⟩
  clear h
  rintro σ w ⟨rfl, h⟩
  rw [fin_nil, hCb, o_nil, o_field, o_field]
  refine ld_in (b := C.cb) (v := .int .i64 s1.root) (sat_chg.1 h) rfl ?_
  have hFe : F = pers φ * (pts e0 (.cells [Value.int .i64 0].toArray 24 (0, 0)) * R) := by rw [← hF]; ac_rfl
  have h : sat E w (chg C (c + 11 + 6 * 3) s1 * (pers φ * (pts e0 (.cells [Value.int .i64 0].toArray 24 (0, 0)) * R))) := by rw [← hFe]; exact h
  refine at_spec hM hm 3 (low := []) (la := none) (lc := 0) hs2 (hleaf.more _) hkey (fun I hI => ⟨none, 0, rfl, Nat.le_refl _, .inl rfl⟩) (by simp) h fun v ys w hys hfy hy1 hy2 h => ?_
  rw [← hFe] at h
  obtain ⟨va, vc, rfl, _, _, _⟩ := osl_shape h
  have h := h.perm (show _ = chg C (c + 11) s2 * (osl 67 3 (.slice va ys.length vc) ys.length (elv ys) * (pers (evP ys) * F)) by ac_rfl)
  refine jn_cut (fun σ w => σ = [] ∧ sat E w (chg C (c + 10) s3 * (osl 67 3 (.slice va ys.length vc) ys.length (elv ys) * (pers (evP ys) * F)))) ?_ ?_
  · intro kk hkk
    clear hek
    rw [o_len, o_gtr]
    unfold growS at hs3
    have hul : up.length = ys.length := by rw [← hys, esv_len]
    rw [hul] at hs3
    by_cases h1 : 1 < ys.length
    · rw [if_pos h1] at hs3
      obtain ⟨⟨r, sa⟩, hs3a, hs3b⟩ := Option.bind_eq_some_iff.1 hs3
      have h1' : (1 : Int) < ys.length := by omega
      simp only [h1', decide_true, cd_true]
      refine take_spec hs3a h fun w h => ?_
      rw [o_nil, o_field, o_field]
      have hs3b : putS C.N { sa with root := r } r (.node ⟨false, up⟩) = some s3 := hs3b
      refine newRoot hm (leaf := false) (lv := .slice va ys.length vc) (xs := ys) (hb := fun w => by kernel_rfl) Rds.osl.left (fun x hx => ((evP_R x hx).left).right) (by rw [hys]; exact hs3b) h fun w h => ?_
      exact hkk _ _ ⟨rfl, h⟩
    · rw [if_neg h1] at hs3
      cases hs3
      have h1' : ¬ (1 : Int) < ys.length := by omega
      simp only [h1', decide_false, cd_false]
      exact hkk _ _ ⟨rfl, chg_le h (by omega)⟩
  clear h
  rintro σ w ⟨rfl, h⟩
  rw [fin_nil, o_nil, o_field, o_field]
  have h : sat E w (chg C (c + 9 + 1) s3 * F) := by
    have h := h.perm (show _ = osl 67 3 (.slice va ys.length vc) ys.length (elv ys) * (pers (evP ys) * (chg C (c + 10) s3 * F)) by ac_rfl)
    exact h.drop.drop
  refine ld_in (b := C.cb) (v := .int .i64 s3.root) (sat_chg.1 h) rfl ?_
  obtain ⟨n3, hn3, _⟩ := Option.bind_eq_some_iff.1 (show dropS C.N 3 s3 = some s4 from hs4)
  refine read_spec hn3 h fun lv xs w hxs ok h => ?_
  refine alloc_sl h fun nb w h => ?_
  have h : sat E w (pts nb (.cells [Value.bool false, .slice none 0 0].toArray 63 (0, 0)) * _) := h
  obtain ⟨a1, c1, rfl, _, _, _⟩ := osl_shape h.drop
  refine store_all (b := nb) h (vs := [Value.bool n3.leaf, .slice a1 xs.length c1]) rfl rfl (by simp [Value.oneCell']) fun w h => ?_
  refine lp_nat (fun q σ w => ∃ (nb : Nat) (sq : St) (n : Nd) (xs : List Ev) (a1 : Option Addr) (c1 : Nat), σ = [.pointer (some ⟨nb, 0, none⟩)] ∧ dropS C.N (q + 1) sq = some s4 ∧ readS C.N sq sq.root = some n ∧ esv xs = n.l ∧ NdOk n ∧
    sat E w (pts nb (.cells [Value.bool n.leaf, .slice a1 xs.length c1].toArray 63 (0, 0)) * (osl 67 3 (.slice a1 xs.length c1) xs.length (elv xs) * (chg C (c + q + 7) sq * F)))) 2 ⟨nb, s3, n3, xs, a1, c1, rfl, hs4, hn3, hxs, ok, ?_⟩ ?_
  · exact (h.perm (show _ = pers (evP xs) * (pts nb (.cells [Value.bool n3.leaf, .slice a1 xs.length c1].toArray 63 (0, 0)) * (osl 67 3 (.slice a1 xs.length c1) xs.length (elv xs) * (chg C (c + 9) s3 * F))) by ac_rfl)).drop
  rintro q σ w again ⟨nb, sq, n, xs, a1, c1, rfl, hdr, hrn, hxs, ok, h⟩ hag
  rw [pop_cons, fin_nil]
  have hxl : xs.length = n.l.length := by rw [← hxs, esv_len]
  unfold dropS at hdr
  rw [hrn] at hdr
  have hdr : (match n.leaf, n.l with
    | false, [e] => (do
      let s ← giveS C.N sq sq.root
      dropS C.N q { s with root := e.pg } : Option St)
    | _, _ => pure sq) = some s4 := hdr
  try simp only [↓opsA, opsB, if_true, if_false, ↓reduceIte]
  refine ld_in (b := nb) (v := .bool n.leaf) h rfl ?_
  have hend : ∀ {w : World}, sq = s4 → sat E w (pts nb (.cells [Value.bool n.leaf, .slice a1 xs.length c1].toArray 63 (0, 0)) * (osl 67 3 (.slice a1 xs.length c1) xs.length (elv xs) * (chg C (c + q + 7) sq * F))) → (
      Calls prog 54 #[.pointer (some ⟨tb, 0, none⟩), .pointer (some ⟨C.cb, 0, none⟩)] w (Ret fun t_53 w =>
        efu prog (Instr.storeAt 24 (.pointer (some ⟨e0, 0, none⟩)) t_53) w fun u_54 w =>
        dfr prog (.func (.func 48) #[] #[.pointer (some ⟨e0, 0, none⟩)]) w fun w => ∃ r_55, (do loadVar 24 (← asAddr (.pointer (some ⟨e0, 0, none⟩)))).run prog w = .ok r_55 w ∧ K r_55 w)) := fun {w} e h => by
    subst e
    unfold finS at hd
    split at hd
    case isFalse => cases hd
    rename_i hb
    obtain ⟨g1, g2, g3, g4⟩ := hb
    obtain ⟨_, _, hsp⟩ := putS_some hd
    have h := chg_le h.drop.drop (show c ≤ c + q + 7 by omega)
    rw [hCt]
    refine keep_spec hm hd (by rw [hsp]; show sq.w + 1 ≤ 100; omega) (by omega) (by omega) (by omega) h fun w h hok' => ?_
    refine hek rfl (Y := trT tb A N s' 100 k0 c) ?_ fun w h => k w h hok'
    unfold trT
    rw [star_assoc]
    exact h
  cases hlf : n.leaf
  · rw [hlf] at hdr h hend
    simp only [↓opsA, opsB, if_true, if_false, ↓reduceIte]
    refine ld_in (b := nb) (v := .slice a1 xs.length c1) h rfl ?_
    try simp only [↓opsA, opsB, if_true, if_false, ↓reduceIte]
    by_cases h1 : xs.length = 1
    · obtain ⟨x0, rfl⟩ : ∃ x0, xs = [x0] := by
        match xs, h1 with
        | [x], _ => exact ⟨x, rfl⟩
      have hnl : n.l = [x0.e] := by rw [← hxs]; rfl
      rw [hnl] at hdr
      simp only at hdr
      obtain ⟨sg, hgv, hdr⟩ := Option.bind_eq_some_iff.1 hdr
      have h1' : (([x0] : List Ev).length : Int) = 1 := rfl
      simp only [h1', ↓opsA, opsB, if_true, if_false, ↓reduceIte]
      obtain ⟨s5, hp5, hs5⟩ := Option.bind_eq_some_iff.1 (show (putS C.N sq sq.root (.free sq.free)).bind (fun s => some { s with free := sq.root }) = some sg from hgv)
      have hfr : sq.free < 65536 := (putS_some hp5).2.1
      have hcb2 : ∀ {w : World} {Y : HP} {c' : Nat} {s' : St}, sat E w (Y * (chg C c' s' * F)) → sat E w (pts C.cb (.cells (ccells C s').toArray 124 (0, 0)) * (pts C.tb (.cells (tcells C).toArray 73 (0, 0)) * (chM C.mo C.N C.ct s'.cc s'.w * (pX C.A C.N C.ct 0 C.kk c' * (Y * F))))) := fun h => sat_chg.1 (h.perm (star_left_comm _ _ _))
      have h := h.perm (show _ = (pts nb (.cells [Value.bool false, .slice a1 ([x0] : List Ev).length c1].toArray 63 (0, 0)) * osl 67 3 (.slice a1 ([x0] : List Ev).length c1) ([x0] : List Ev).length (elv [x0])) * (chg C (c + q + 7) sq * F) by ac_rfl)
      refine ld_in (b := C.cb) (v := .int .i64 sq.root) (hcb2 h) rfl ?_
      have h := h.perm (star_left_comm _ _ _)
      refine give_spec hm hgv h hfr fun w h => ?_
      have h := h.perm (show _ = pts nb (.cells [Value.bool false, .slice a1 ([x0] : List Ev).length c1].toArray 63 (0, 0)) * (osl 67 3 (.slice a1 ([x0] : List Ev).length c1) ([x0] : List Ev).length (elv [x0]) * (chg C (c + q + 7) sg * F)) by ac_rfl)
      refine ld_in (b := nb) (v := .slice a1 ([x0] : List Ev).length c1) h rfl ?_
      have hrd : Rds (pts nb (.cells [Value.bool false, .slice a1 ([x0] : List Ev).length c1].toArray 63 (0, 0)) * (osl 67 3 (.slice a1 ([x0] : List Ev).length c1) ([x0] : List Ev).length (elv [x0]) * (chg C (c + q + 7) sg * F))) (.slice a1 ([x0] : List Ev).length c1) ([x0] : List Ev).length (elv [x0]) := Rds.osl.left.right
      obtain ⟨b2, o2, rfl, _⟩ := ld_ev h hrd (i := 0) (by simp)
      rw [o_index (by omega) (by simp)]
      simp only [↓opsA, opsB, if_true, if_false, ↓reduceIte, Int.toNat_zero, Nat.zero_mul, Nat.add_zero]
      refine ld_rd h hrd 2 rfl (v := .int .i64 x0.e.pg) rfl ?_
      have h := h.perm (show _ = chg C (c + q + 7) sg * (pts nb (.cells [Value.bool false, .slice (some ⟨b2, o2, none⟩) ([x0] : List Ev).length c1].toArray 63 (0, 0)) * (osl 67 3 (.slice (some ⟨b2, o2, none⟩) ([x0] : List Ev).length c1) ([x0] : List Ev).length (elv [x0]) * F)) by ac_rfl)
      refine chg_rooted h fun w h => ?_
      refine ld_agg (b := nb) h rfl ?_
      refine alloc_sl h fun n5 w h => ?_
      have h : sat E w (pts n5 (.cells [Value.bool false, .slice none 0 0].toArray 63 (0, 0)) * _) := h
      refine store_all (b := n5) h (vs := [Value.bool false, .slice (some ⟨b2, o2, none⟩) ([x0] : List Ev).length c1]) rfl rfl (by simp [Value.oneCell']) fun w h => ?_
      try simp only [↓opsA, opsB, if_true, if_false, ↓reduceIte]
      have h := h.perm (show _ = (pts n5 (.cells [Value.bool false, .slice (some ⟨b2, o2, none⟩) ([x0] : List Ev).length c1].toArray 63 (0, 0)) * (pts nb (.cells [Value.bool false, .slice (some ⟨b2, o2, none⟩) ([x0] : List Ev).length c1].toArray 63 (0, 0)) * osl 67 3 (.slice (some ⟨b2, o2, none⟩) ([x0] : List Ev).length c1) ([x0] : List Ev).length (elv [x0]))) * (chg C (c + q + 7) { sg with root := x0.e.pg } * F) by ac_rfl)
      refine ld_in (b := C.cb) (v := .int .i64 x0.e.pg) (hcb2 h) rfl ?_
      obtain ⟨q', rfl⟩ : ∃ q', q = q' + 1 := by
        cases q with
        | zero => cases hdr
        | succ q' => exact ⟨q', rfl⟩
      obtain ⟨n6, hn6, _⟩ := Option.bind_eq_some_iff.1 (show dropS C.N (q' + 1) { sg with root := x0.e.pg } = some s4 from hdr)
      have h := h.perm (star_left_comm _ _ _)
      refine read_spec hn6 (chg_le h (show c + q' + 7 + 1 ≤ c + (q' + 1) + 7 by omega)) fun lv6 xs6 w hxs6 ok6 h => ?_
      obtain ⟨a6, c6, rfl, _, _, _⟩ := osl_shape h
      have h := h.perm (show _ = pts n5 (.cells [Value.bool false, .slice (some ⟨b2, o2, none⟩) ([x0] : List Ev).length c1].toArray 63 (0, 0)) * (pts nb (.cells [Value.bool false, .slice (some ⟨b2, o2, none⟩) ([x0] : List Ev).length c1].toArray 63 (0, 0)) * (osl 67 3 (.slice (some ⟨b2, o2, none⟩) ([x0] : List Ev).length c1) ([x0] : List Ev).length (elv [x0]) * (pers (evP xs6) * (osl 67 3 (.slice a6 xs6.length c6) xs6.length (elv xs6) * (chg C (c + q' + 7) { sg with root := x0.e.pg } * F))))) by ac_rfl)
      refine store_all (b := n5) h (vs := [Value.bool n6.leaf, .slice a6 xs6.length c6]) rfl rfl (by simp [Value.oneCell']) fun w h => ?_
      refine hag q' _ _ (by omega) ⟨n5, _, n6, xs6, a6, c6, rfl, hdr, hn6, hxs6, ok6, ?_⟩
      have h := h.perm (show _ = pts nb (.cells [Value.bool false, .slice (some ⟨b2, o2, none⟩) ([x0] : List Ev).length c1].toArray 63 (0, 0)) * (osl 67 3 (.slice (some ⟨b2, o2, none⟩) ([x0] : List Ev).length c1) ([x0] : List Ev).length (elv [x0]) * (pers (evP xs6) * (pts n5 (.cells [Value.bool n6.leaf, .slice a6 xs6.length c6].toArray 63 (0, 0)) * (osl 67 3 (.slice a6 xs6.length c6) xs6.length (elv xs6) * (chg C (c + q' + 7) { sg with root := x0.e.pg } * F))))) by ac_rfl)
      exact h.drop.drop.drop
    · have h1' : ¬ (xs.length : Int) = 1 := by omega
      simp only [h1', ↓opsA, opsB, if_true, if_false, ↓reduceIte]
      refine hend ?_ h
      have : ∀ e, n.l ≠ [e] := fun e he => h1 (by rw [hxl, he]; rfl)
      split at hdr
      · rename_i e _ he; exact absurd he (this e)
      · cases hdr; rfl
  · rw [hlf] at hdr h hend
    simp only [↓opsA, opsB, if_true, if_false, ↓reduceIte]
    exact hend (by cases hdr; rfl) h
end Go.Proofs.YtfaeklinhchidaaGreat

/-
  Put.
-/
set_option linter.all false
set_option maxRecDepth 100000
namespace Go.Proofs.YtfaeklinhchidaaGreat
open Go Hold
variable {E : World0} {w : World} {H R X : HP} {K : Value → World → Prop}
theorem find_le (n : Nd) (key : Bs) (hl : n.leaf = true) : (findP n key).1 ≤ n.l.length ∧ ((findP n key).2 = true → (findP n key).1 < n.l.length) := by
  unfold findP
  simp only [hl, Bool.not_true, Bool.false_and, Bool.false_eq_true, if_false]
  have h1 : n.l.countP (fun e => lexB e.k key) ≤ n.l.length := List.countP_le_length
  refine ⟨h1, fun h => Nat.lt_of_le_of_ne h1 fun e => ?_⟩
  obtain ⟨x, hx, hk⟩ := List.any_eq_true.1 h
  have hk : x.k = key := by simpa using hk
  have := List.countP_eq_length.1 e x hx
  rw [hk, lexB_irrefl] at this; cases this
theorem elv_set {xs : List Ev} {i : Nat} (h : i < xs.length) (x : Ev) : (elv xs).take (i * 3) ++ ecells x ++ (elv xs).drop (i * 3 + 3) = elv (xs.set i x) := by
  have e1 : (elv xs).take (i * 3) = elv (xs.take i) := by
    have : elv xs = elv (xs.take i) ++ elv (xs.drop i) := by rw [← elv_app, List.take_append_drop]
    rw [this, List.take_left' (by rw [elv_len, List.length_take]; omega)]
  have e2 : (elv xs).drop (i * 3 + 3) = elv (xs.drop (i + 1)) := by rw [show i * 3 + 3 = (i + 1) * 3 by omega]; exact fm_drop ecells_len xs (i + 1)
  rw [e1, e2, List.set_eq_take_append_cons_drop, if_pos h, elv_app]
  show elv (xs.take i) ++ ecells x ++ elv (xs.drop (i + 1)) = elv (xs.take i) ++ (ecells x ++ elv (xs.drop (i + 1)))
  rw [List.append_assoc]
theorem elv_ins {xs : List Ev} {i : Nat} (h : i ≤ xs.length) (x : Ev) : (elv xs).take (i * 3) ++ ecells x ++ (elv xs).drop (i * 3) = elv (xs.take i ++ [x] ++ xs.drop i) := by
  have this : elv xs = elv (xs.take i) ++ elv (xs.drop i) := by rw [← elv_app, List.take_append_drop]
  have e1 : (elv xs).take (i * 3) = elv (xs.take i) := by
    rw [this, List.take_left' (by rw [elv_len, List.length_take]; omega)]
  have e2 : (elv xs).drop (i * 3) = elv (xs.drop i) := fm_drop ecells_len xs i
  rw [e1, e2, elv_app, elv_app]
  show _ = elv (xs.take i) ++ elv [x] ++ elv (xs.drop i)
  rw [show elv [x] = ecells x by simp [elv]]
theorem ecells_one (x : Ev) : ∀ v ∈ ecells x, v.oneCell' = true := by simp [ecells, Ev.kv, Ev.vv, Value.oneCell']
def boxS (b : Nat) (v : Value) : HP := pts b (.cells [v].toArray 22 (0, 0))
instance hasBoxS (b : Nat) (v : Value) : Has (boxS b v) b (.cells [v].toArray 22 (0, 0)) := ⟨fun h => (h.perm (star_emp _).symm).pts_get⟩
theorem put_leaf {kb vb : Nat} {ka va : Option Addr} {kc vc : Nat} {key val : Bs} {φ : PP} (hk : key.length ≤ 1000) (hv : val.length ≤ 1000) (hkr : ∀ I, φ.p I → RdS I (.slice ka key.length kc) key.length (key.map bv)) (hvr : ∀ I, φ.p I → RdS I (.slice va val.length vc) val.length (val.map bv)) :
    LeafSpec (.func (.func 20) #[] #[.pointer (some ⟨kb, 0, none⟩), .pointer (some ⟨vb, 0, none⟩)]) (putF key val) (boxS kb (.slice ka key.length kc) * (boxS vb (.slice va val.length vc) * (pers φ * R))) := by
  intro E w K Z lv xs ok _ h k
  obtain ⟨hfew, hxl⟩ := ok_few ok (xs := xs) rfl
  obtain ⟨a, c1, rfl, hc1, _, _⟩ := osl_shape h
  obtain ⟨hfl, hfl2⟩ := find_le ⟨true, esv xs⟩ key rfl
  refine oCall_body Tryz.func20 (by kernel_rfl) (by kernel_rfl) ?_
  refine c20 ?_
  unfold B20
  generalize hF : pers (evP xs) * (Z * (boxS kb (.slice ka key.length kc) * (boxS vb (.slice va val.length vc) * (pers φ * R)))) = F at h
  have hFk : ∀ {w : World} {Y : HP}, sat E w (Y * F) → sat E w (boxS kb (.slice ka key.length kc) * (boxS vb (.slice va val.length vc) * (Y * (pers (evP xs) * (Z * (pers φ * R)))))) := fun h => by rw [← hF] at h; exact h.perm (by ac_rfl)
  have hFe : ∀ x ∈ xs, EvR F x := fun x hx => by rw [← hF]; exact (evP_R x hx).left
  have hFr : Rds F (.slice ka key.length kc) key.length (key.map bv) := by
    rw [← hF]
    have : Rds (pers φ * R) (.slice ka key.length kc) key.length (key.map bv) := fun E w hs => hkr _ hs.pers_get
    exact this.right.right.right.right
  refine box_sl h fun n0 w h => ?_
  have h : sat E w (pts n0 (.cells [Value.bool true, .slice a xs.length c1].toArray 63 (0, 0)) * (osl 67 3 (.slice a xs.length c1) xs.length (elv xs) * F)) := h
  refine alloc_sl h fun t1 w h => ?_
  have h : sat E w (pts t1 (.cells [Value.bool false, .slice none 0 0].toArray 63 (0, 0)) * (pts n0 (.cells [Value.bool true, .slice a xs.length c1].toArray 63 (0, 0)) * (osl 67 3 (.slice a xs.length c1) xs.length (elv xs) * F))) := h
  refine ld_agg (b := n0) h rfl ?_
  have hq : ∀ {w : World} {Y1 Y2 Y3 : HP}, sat E w (Y1 * (Y2 * (Y3 * F))) → sat E w (boxS kb (.slice ka key.length kc) * (boxS vb (.slice va val.length vc) * ((Y1 * (Y2 * Y3)) * (pers (evP xs) * (Z * (pers φ * R)))))) := fun {w Y1 Y2 Y3} h => hFk (h.perm (show _ = (Y1 * (Y2 * Y3)) * F by ac_rfl))
  refine ld_in (b := kb) (v := .slice ka key.length kc) (hq h) rfl ?_
  refine find_spec (leaf := true) h (Rds.osl.left.right.right) (fun x hx => ((hFe x hx).right).right.right) hFr.right.right.right ok.s (by omega) fun w h => ?_
  simp only [↓opsA, opsB, if_true, if_false, ↓reduceIte]
  refine ld_in (b := kb) (v := .slice ka key.length kc) (hq h) rfl ?_
  refine ld_in (b := vb) (v := .slice va val.length vc) (hq h) rfl ?_
  let x : Ev := ⟨ka, kc, va, vc, ⟨key, val, 0⟩⟩
  refine pvv_of (v := .agg (ecells x).toArray) (fun w => by kernel_rfl) ?_
  refine alloc_sl h fun e0 w h => ?_
  have h : sat E w (pts e0 (.cells [Value.slice none 0 0, .slice none 0 0, .int .i64 0].toArray 67 (0, 0)) * _) := h
  refine store_all (b := e0) h (vs := ecells x) rfl rfl (ecells_one x) fun w h => ?_
  have hlen : (⟨true, esv xs⟩ : Nd).l.length = xs.length := esv_len xs
  rw [hlen] at hfl hfl2
  have hxJ : ∀ I, φ.p I → evJ I x := fun I hI => ⟨hkr I hI, hvr I hI⟩
  have hxf : x.e.k.length ≤ 1000 ∧ x.e.v.length ≤ 1000 := ⟨hk, hv⟩
  have hxe : x.e = ⟨key, val, 0⟩ := rfl
  clear_value x
  -- what is left at the end
  have hfin : ∀ {w : World} {lv' : Value} {ys : List Ev}, lv'.oneCell' = true → (∀ y ∈ ys, y ∈ xs ∨ y = x) → ys.length ≤ 1000 → (⟨true, esv ys⟩ : Nd) = putF key val ⟨true, esv xs⟩ → sat E w (pts n0 (.cells [Value.bool true, lv'].toArray 63 (0, 0)) * (pts t1 (.cells [Value.bool false, .slice none 0 0].toArray 63 (0, 0)) * (osl 67 3 lv' ys.length (elv ys) * F))) → (
      ldv prog (Instr.loadAt 63 (.pointer (some ⟨n0, 0, none⟩))) w fun t_17 w =>
      efu prog (Instr.storeAt 63 (.pointer (some ⟨t1, 0, none⟩)) t_17) w fun u_18 w =>
      ∃ r_19, (do loadVar 63 (← asAddr (.pointer (some ⟨t1, 0, none⟩)))).run prog w = .ok r_19 w ∧ K r_19 w) := fun {w lv' ys} ho hy hyl he h => by
    refine ld_agg (b := n0) h rfl ?_
    have h := h.own t1
    refine res_all (b := t1) h (vs := [Value.bool true, lv']) rfl rfl (by intro u hu; simp only [List.mem_cons, List.not_mem_nil, or_false] at hu; exact hu.elim (fun e => e ▸ rfl) (fun e => e ▸ ho)) fun w h => ?_
    refine k lv' ys w he ⟨hyl, fun y hym => ?_⟩ ?_
    · rcases hy y hym with h1 | rfl
      · exact hfew.2 y h1
      · exact hxf
    · have h := h.drop.drop
      rw [← hF] at h
      have h := h.perm (show _ = pers (evP xs) * (pers φ * (osl 67 3 lv' ys.length (elv ys) * (Z * (boxS kb (.slice ka key.length kc) * (boxS vb (.slice va val.length vc) * R))))) by ac_rfl)
      have h := sat_imp2 h.pers_dup (evP xs) (evP xs) (χ := evP xs) fun I h1 _ => h1
      have h : sat E w ((pers (evP xs) * pers φ) * (osl 67 3 lv' ys.length (elv ys) * (Z * (boxS kb (.slice ka key.length kc) * (boxS vb (.slice va val.length vc) * R))))) := by rw [star_assoc]; exact h
      rw [pers_and] at h
      have h := h.pers_new (ψ := evP ys) fun I hI y hym => by
        rcases hy y hym with h1 | rfl
        · exact hI.1 y h1
        · exact hxJ I hI.2
      have h := (h.perm (star_left_comm _ _ _)).pers_mono (ψ := φ) fun I hI => hI.2
      exact h.perm (by ac_rfl)
  unfold putF at hfin
  by_cases ht : (findP ⟨true, esv xs⟩ key).2 = true
  · rw [ht]
    rw [cd_true]
    have hi := hfl2 ht
    simp only [ht, if_true] at hfin
    generalize (findP ⟨true, esv xs⟩ key).1 = i at *
    refine ld_in (b := n0) (v := .slice a xs.length c1) h rfl ?_
    refine ld_agg (b := e0) (xs := ecells x) h rfl ?_
    have h := h.perm (show _ = osl 67 3 (.slice a xs.length c1) xs.length (elv xs) * (pts e0 (.cells (ecells x).toArray 67 (0, 0)) * (pts n0 (.cells [Value.bool true, .slice a xs.length c1].toArray 63 (0, 0)) * (pts t1 (.cells [Value.bool false, .slice none 0 0].toArray 63 (0, 0)) * F))) by ac_rfl)
    obtain ⟨b, c2, sp, hsv, hxl2, htot, hnc, hcm, h⟩ := row_open h (by omega)
    cases hsv
    rw [o_index (by omega) (by omega)]
    simp only [Int.toNat_natCast, Nat.zero_add]
    have hel := elv_len xs
    have hxc : (ecells x).length = 3 := rfl
    refine store_part (b := b) h (o := i * 3) (vs := ecells x) (elv (xs.set i x) ++ sp) rfl (ecells_one x) (by simp only [List.length_append]; omega) ?_ fun w h => ?_
    · rw [← elv_set hi x, List.take_append_of_le_length (by omega), List.drop_append_of_le_length (by omega)]
      simp only [List.append_assoc, hxc]
    have h := row_shut h (by rw [elv_len, List.length_set]) (by rw [List.length_append, elv_len, List.length_set]; rw [List.length_append, elv_len] at htot; exact htot) hnc hcm
    refine hfin (lv' := .slice (some ⟨b, 0, none⟩) xs.length c1) (ys := xs.set i x) rfl (fun y hy => List.mem_or_eq_of_mem_set hy) (by rw [List.length_set]; omega) ?_ ?_
    · congr 1
      unfold esv
      rw [List.map_set, hxe]
    · rw [List.length_set]
      exact (h.perm (show _ = pts e0 (.cells (ecells x).toArray 67 (0, 0)) * (pts n0 (.cells [Value.bool true, .slice (some ⟨b, 0, none⟩) xs.length c1].toArray 63 (0, 0)) * (pts t1 (.cells [Value.bool false, .slice none 0 0].toArray 63 (0, 0)) * (osl 67 3 (.slice (some ⟨b, 0, none⟩) xs.length c1) xs.length (elv (xs.set i x)) * F))) by ac_rfl)).drop
  · have ht : (findP ⟨true, esv xs⟩ key).2 = false := by simpa using ht
    rw [ht, cd_false]
    simp only [ht, Bool.false_eq_true, if_false] at hfin
    generalize (findP ⟨true, esv xs⟩ key).1 = i at *
    refine ld_in (b := n0) (v := .slice a xs.length c1) h rfl ?_
    refine ld_agg (b := e0) (xs := ecells x) h rfl ?_
    refine buildSlice_sl (e := 67) (cs := (ecells x).toArray) h (fun w => by kernel_rfl) fun b3 w h => ?_
    have h := osl_of (n := 1) (sz := 3) h rfl (by omega)
    have h := h.perm (show _ = osl 67 3 (.slice a xs.length c1) xs.length (elv xs) * (osl 67 3 (.slice (some ⟨b3, 0, none⟩) 1 1) 1 (ecells x) * (pts e0 (.cells (ecells x).toArray 67 (0, 0)) * (pts n0 (.cells [Value.bool true, .slice a xs.length c1].toArray 63 (0, 0)) * (pts t1 (.cells [Value.bool false, .slice none 0 0].toArray 63 (0, 0)) * F)))) by ac_rfl)
    refine InsertE_spec h hfl (by omega) (by omega) (elv_one xs) (ecells_one x) fun v' w h => ?_
    rw [elv_ins hfl x] at h
    obtain ⟨a3, c3, rfl, _, _, _⟩ := osl_shape h
    try simp only [↓opsA, opsB, if_true, if_false, ↓reduceIte]
    have h := h.perm (show _ = pts n0 (.cells [Value.bool true, .slice a xs.length c1].toArray 63 (0, 0)) * (pts e0 (.cells (ecells x).toArray 67 (0, 0)) * (pts t1 (.cells [Value.bool false, .slice none 0 0].toArray 63 (0, 0)) * (osl 67 3 (.slice a3 (xs.length + 1) c3) (xs.length + 1) (elv (xs.take i ++ [x] ++ xs.drop i)) * F))) by ac_rfl)
    refine store_at (b := n0) h rfl (by simp) fun w h => ?_
    have hyl : (xs.take i ++ [x] ++ xs.drop i).length = xs.length + 1 := by
      rw [List.length_append, List.length_append, List.length_take, List.length_drop]; simp; omega
    refine hfin (lv' := .slice a3 (xs.length + 1) c3) (ys := xs.take i ++ [x] ++ xs.drop i) rfl (fun y hy => ?_) (by omega) ?_ ?_
    · rcases List.mem_append.1 hy with hy | hy
      · rcases List.mem_append.1 hy with hy | hy
        · exact .inl (List.mem_of_mem_take hy)
        · simp at hy; exact .inr hy
      · exact .inl (List.mem_of_mem_drop hy)
    · congr 1
      unfold esv
      rw [List.map_append, List.map_append, List.map_take, List.map_drop, List.map_cons, List.map_nil, hxe]
    · rw [hyl]
      exact (h.perm (show _ = pts e0 (.cells (ecells x).toArray 67 (0, 0)) * (pts n0 (.cells [Value.bool true, .slice a3 (xs.length + 1) c3].toArray 63 (0, 0)) * (pts t1 (.cells [Value.bool false, .slice none 0 0].toArray 63 (0, 0)) * (osl 67 3 (.slice a3 (xs.length + 1) c3) (xs.length + 1) (elv (xs.take i ++ [x] ++ xs.drop i)) * F))) by ac_rfl)).drop
theorem isKey_spec {a : Option Addr} {n c : Nat} (h1 : 1 ≤ n) (h2 : n ≤ 64) (k : K (.bool true) w) : Calls prog 18 #[.slice a n c] w (Ret K) := by
  refine c18 ?_
  unfold B18
  have e1 : (1 : Int) ≤ (n : Int) := by omega
  have e2 : (n : Int) ≤ 64 := by omega
  simp only [e1, e2, ↓opsA, opsB, if_true, if_false, ↓reduceIte]
  exact k
theorem Put_spec {M : Nat → St → Nd → Nat → Option (Nd × St)} (hM : MendSpec M) {tb : Nat} {A : Ad} {N : Nat} (hN : N ≤ 1000) {k0 c : Nat} {s s' : St} {key val : Bs} {ka va : Option Addr} {kc vc : Nat} {φ : PP}
    (hd : doS M N (putF key val) key s = some s') (hw0 : s.w = 0) (hok : ∀ p, p < N → (s.cc p).Ok) (hk1 : 1 ≤ key.length) (hk2 : key.length ≤ 64) (hv2 : val.length ≤ 72) (hkr : ∀ I, φ.p I → RdS I (.slice ka key.length kc) key.length (key.map bv)) (hvr : ∀ I, φ.p I → RdS I (.slice va val.length vc) val.length (val.map bv))
    (h : sat E w (trT tb A N s 0 k0 (c + 30) * (pers φ * R))) (k : ∀ w', sat E w' (trT tb A N s' 100 k0 c * (pers φ * R)) → (∀ p, p < N → (s'.cc p).Ok) → K (.int .i64 0) w') :
    Calls prog 6 #[.pointer (some ⟨tb, 0, none⟩), .slice ka key.length kc, .slice va val.length vc] w (Ret K) := by
  refine c6 ?_
  unfold B6
  refine box_sl h fun kb w h => ?_
  have h : sat E w (boxS kb (.slice ka key.length kc) * (trT tb A N s 0 k0 (c + 30) * (pers φ * R))) := h
  refine box_sl h fun vb w h => ?_
  have h : sat E w (boxS vb (.slice va val.length vc) * (boxS kb (.slice ka key.length kc) * (trT tb A N s 0 k0 (c + 30) * (pers φ * R)))) := h
  simp only [↓opsA, opsB, if_true, if_false, ↓reduceIte]
  refine ld_in (b := kb) (v := .slice ka key.length kc) h rfl ?_
  refine isKey_spec hk1 hk2 ?_
  have e1 : ¬ (72 : Int) < (val.length : Int) := by omega
  simp only [↓opsA, opsB, if_true, if_false, ↓reduceIte]
  refine ld_in (b := vb) (v := .slice va val.length vc) h rfl ?_
  simp only [e1, ↓opsA, opsB, if_true, if_false, ↓reduceIte]
  refine ld_in (b := kb) (v := .slice ka key.length kc) h rfl ?_
  refine pvv_of (v := .func (.func 20) #[] #[.pointer (some ⟨kb, 0, none⟩), .pointer (some ⟨vb, 0, none⟩)]) (fun w => by kernel_rfl) ?_
  have h := (h.perm (show _ = pers φ * (trT tb A N s 0 k0 (c + 30) * (boxS kb (.slice ka key.length kc) * (boxS vb (.slice va val.length vc) * R))) by ac_rfl)).pers_dup
  have h := h.perm (show _ = trT tb A N s 0 k0 (c + 30) * (pers φ * (boxS kb (.slice ka key.length kc) * (boxS vb (.slice va val.length vc) * (pers φ * R)))) by ac_rfl)
  refine do_spec hM hN hd hw0 hok (put_leaf (by omega) (by omega) hkr hvr) hkr h fun w h hok' => k w ?_ hok'
  have h := h.perm (show _ = pers φ * (boxS kb (.slice ka key.length kc) * (boxS vb (.slice va val.length vc) * (trT tb A N s' 100 k0 c * (pers φ * R)))) by ac_rfl)
  exact h.drop.drop.drop
theorem Commit_tree {tb : Nat} {A : Ad} {N k0 c : Nat} {s : St} (hk : k0 ≤ 700) (h : sat E w (trT tb A N s 100 k0 c * R)) (k : ∀ w', sat E w' (trT tb A N s 0 (k0 + 1) c * R) → K (.int .i64 0) w') : Calls prog 7 #[.pointer (some ⟨tb, 0, none⟩)] w (Ret K) := by
  refine c7 ?_
  unfold B7
  simp only [↓opsA, opsB, if_true, if_false, ↓reduceIte]
  have h : sat E w (pX A N s.cc 100 k0 c * (pts tb (.cells [Value.int .i64 s.root, .int .i64 s.free, .int .i64 s.fresh, .pointer (some ⟨A.q, 0, none⟩)].toArray 73 (0, 0)) * R)) := h.perm (by unfold trT; ac_rfl)
  refine ld_in (b := tb) (v := .pointer (some ⟨A.q, 0, none⟩)) h rfl ?_
  refine XCommit_spec h hk fun w h => k w (h.perm (by unfold trT; ac_rfl))
end Go.Proofs.YtfaeklinhchidaaGreat

/-
  All below a page is gone through.
-/
set_option linter.all false
set_option maxRecDepth 100000
namespace Go.Proofs.YtfaeklinhchidaaGreat
open Go Hold
variable {E : World0} {w : World} {H R X : HP} {K : Value → World → Prop}
/-- A tree, looked at through a change that writes nothing. -/
def Cv (cb tb : Nat) (A : Ad) (N : Nat) (s : St) (k0 : Nat) (le : N ≤ 1000) : Cx := ⟨cb, tb, none, A, N, s.cc, (s.root, s.free, s.fresh), k0, le⟩
def sv (s : St) : St := ⟨0, 0, 0, 0, s.cc⟩
def vcells (tb : Nat) : List Value := [.int .i64 0, .int .i64 0, .int .i64 0, .pointer (some ⟨tb, 0, none⟩), .map none]
theorem to_view {cb tb : Nat} {A : Ad} {N : Nat} {s : St} {k0 c : Nat} (le : N ≤ 1000) (hok : ∀ p, p < N → (s.cc p).Ok) (h : sat E w (pts cb (.cells (vcells tb).toArray 124 (0, 0)) * (trT tb A N s 0 k0 c * R))) : sat E w (chg (Cv cb tb A N s k0 le) c (sv s) * R) := by
  refine sat_chg.2 ?_
  unfold trT at h
  have h2 : sat E w (chM none N s.cc s.cc 0 * (pts cb (.cells (vcells tb).toArray 124 (0, 0)) * (pts tb (.cells [Value.int .i64 s.root, .int .i64 s.free, .int .i64 s.fresh, .pointer (some ⟨A.q, 0, none⟩)].toArray 73 (0, 0)) * (pX A N s.cc 0 k0 c * R)))) :=
    sat_chM0.2 ⟨⟨by simp, fun x hx => by simp at hx, by simp, fun p hp => rfl, hok⟩, h.perm (by ac_rfl)⟩
  exact h2.perm (show _ = pts cb (.cells (vcells tb).toArray 124 (0, 0)) * (pts tb (.cells [Value.int .i64 s.root, .int .i64 s.free, .int .i64 s.fresh, .pointer (some ⟨A.q, 0, none⟩)].toArray 73 (0, 0)) * (chM none N s.cc s.cc 0 * (pX A N s.cc 0 k0 c * R))) by ac_rfl)
theorem of_view {cb tb : Nat} {A : Ad} {N : Nat} {s : St} {k0 c : Nat} {le : N ≤ 1000} (h : sat E w (chg (Cv cb tb A N s k0 le) c (sv s) * R)) : sat E w (trT tb A N s 0 k0 c * R) := by
  have h := sat_chg.1 h
  have h : sat E w (pts cb (.cells (vcells tb).toArray 124 (0, 0)) * (pts tb (.cells [Value.int .i64 s.root, .int .i64 s.free, .int .i64 s.fresh, .pointer (some ⟨A.q, 0, none⟩)].toArray 73 (0, 0)) * (chM none N s.cc s.cc 0 * (pX A N s.cc 0 k0 c * R)))) := h
  have h := h.drop.perm (show _ = chM none N s.cc s.cc 0 * (pts tb (.cells [Value.int .i64 s.root, .int .i64 s.free, .int .i64 s.fresh, .pointer (some ⟨A.q, 0, none⟩)].toArray 73 (0, 0)) * (pX A N s.cc 0 k0 c * R)) by ac_rfl)
  exact (sat_chM0.1 h).2.perm (by unfold trT; ac_rfl)
def nv3 (n : Nat) : Value := .int .i64 n
/-- A report that is being made. -/
def rpI (rb : Nat) (hgt : Nat) (ps : List Nat) : HP := ex fun q : Value × Nat => pts rb (.cells [Value.int .i64 hgt, q.1, .slice none 0 0, .slice none 0 0, .int .i64 q.2].toArray 31 (0, 0)) * (pur (q.2 ≤ 3000000 ∧ q.1.oneCell' = true) * osl 3 1 q.1 ps.length (ps.map nv3))
theorem sat_rpI {rb hgt : Nat} {ps : List Nat} : sat E w (rpI rb hgt ps * R) ↔ ∃ a c l, l ≤ 3000000 ∧ sat E w (pts rb (.cells [Value.int .i64 hgt, .slice a ps.length c, .slice none 0 0, .slice none 0 0, .int .i64 (l : Nat)].toArray 31 (0, 0)) * (osl 3 1 (.slice a ps.length c) ps.length (ps.map nv3) * R)) := by
  unfold rpI
  rw [sat_ex_star]
  constructor
  · rintro ⟨⟨v, l⟩, h⟩
    have h := h.perm (show _ = pur (l ≤ 3000000 ∧ v.oneCell' = true) * (pts rb (.cells [Value.int .i64 hgt, v, .slice none 0 0, .slice none 0 0, .int .i64 (l : Nat)].toArray 31 (0, 0)) * (osl 3 1 v ps.length (ps.map nv3) * R)) by simp only; ac_rfl)
    rw [sat_pur_star] at h
    obtain ⟨a, c, rfl, _, _, _⟩ := osl_shape (h.2.perm (star_left_comm _ _ _))
    exact ⟨a, c, l, h.1.1, h.2⟩
  · rintro ⟨a, c, l, h1, h2⟩
    refine ⟨(.slice a ps.length c, l), ?_⟩
    have : sat E w (pur (l ≤ 3000000 ∧ (Value.slice a ps.length c).oneCell' = true) * (pts rb (.cells [Value.int .i64 hgt, .slice a ps.length c, .slice none 0 0, .slice none 0 0, .int .i64 (l : Nat)].toArray 31 (0, 0)) * (osl 3 1 (.slice a ps.length c) ps.length (ps.map nv3) * R))) := by
      rw [sat_pur_star]; exact ⟨⟨h1, rfl⟩, h2⟩
    exact this.perm (by simp only; ac_rfl)
/-- The last key that came. -/
def lsI (lb : Nat) : Option Bs → HP
  | none => boxS lb (.slice none 0 0)
  | some k => ex fun q : Option Addr × Nat => pur (k ≠ []) * (boxS lb (.slice q.1 k.length q.2) * pers (immS (.slice q.1 k.length q.2) k.length (k.map bv)))
theorem sat_lsI {lb : Nat} {k : Bs} : sat E w (lsI lb (some k) * R) ↔ ∃ a c, k ≠ [] ∧ sat E w (boxS lb (.slice a k.length c) * (pers (immS (.slice a k.length c) k.length (k.map bv)) * R)) := by
  unfold lsI
  simp only
  rw [sat_ex_star]
  constructor
  · rintro ⟨⟨a, c⟩, h⟩
    simp only [star_assoc] at h
    rw [sat_pur_star] at h
    exact ⟨a, c, h.1, h.2⟩
  · rintro ⟨a, c, h1, h2⟩
    refine ⟨(a, c), ?_⟩
    simp only [star_assoc]
    rw [sat_pur_star]
    exact ⟨h1, h2⟩
def seenM (ps : List Nat) : List (Int × Value) := pinsM (ps.map (fun p : Nat => (p : Int)))
theorem seen_look {ps : List Nat} {p : Nat} : lookM (seenM ps) p = if p ∈ ps then some (.bool true) else none := by
  unfold seenM
  rw [pinsM_look]
  have : (p : Int) ∈ ps.map (fun p : Nat => (p : Int)) ↔ p ∈ ps := by
    rw [List.mem_map]
    constructor
    · rintro ⟨q, hq, e⟩
      have : q = p := by omega
      rw [← this]; exact hq
    · intro h; exact ⟨p, h, rfl⟩
  simp only [this]
theorem seen_put {p : Nat} : ∀ {ps : List Nat}, p ∉ ps → putM (seenM ps) p (.bool true) = seenM (ps ++ [p])
  | [], _ => rfl
  | q :: ps, h => by
    have h1 : ¬ (p : Int) = (q : Int) := fun e => h (by rw [show p = q by omega]; simp)
    have ih := seen_put (p := p) (ps := ps) (fun hm => h (List.mem_cons_of_mem _ hm))
    unfold seenM pinsM at ih ⊢
    simp only [List.map_cons, putM, List.cons_append]
    rw [if_neg h1, ih]
/-- What going through asks. -/
def lkI (tb : Nat) (A : Ad) (N : Nat) (s : St) (k0 c rb lb sm hgt : Nat) (acc : Acc) : HP := trT tb A N s 0 k0 c * (rpI rb hgt acc.1 * (lsI lb acc.2 * omap sm (seenM acc.1)))
theorem trT_le {tb : Nat} {A : Ad} {N : Nat} {s : St} {d k0 c c' : Nat} (h : sat E w (trT tb A N s d k0 c * R)) (hc : c' ≤ c) : sat E w (trT tb A N s d k0 c' * R) := by
  have h : sat E w (pX A N s.cc d k0 c * (pts tb (.cells [Value.int .i64 s.root, .int .i64 s.free, .int .i64 s.fresh, .pointer (some ⟨A.q, 0, none⟩)].toArray 73 (0, 0)) * R)) := h.perm (by unfold trT; ac_rfl)
  exact (pX_le h (Nat.le_refl _) (Nat.le_refl _) hc).perm (by unfold trT; ac_rfl)
theorem lsI_store {lb : Nat} {last : Option Bs} {a : Option Addr} {c : Nat} {k : Bs} (hk : k ≠ []) (h : sat E w (lsI lb last * (pers (immS (.slice a k.length c) k.length (k.map bv)) * R))) (kk : ∀ w', sat E w' (lsI lb (some k) * R) → K undef w') :
    efu prog (Instr.storeAt 22 (.pointer (some ⟨lb, 0, none⟩)) (.slice a k.length c)) w K := by
  cases last with
  | none =>
    have h : sat E w (pts lb (.cells [Value.slice none 0 0].toArray 22 (0, 0)) * _) := h
    exact store_at (b := lb) h rfl (by simp) fun w h => kk w (sat_lsI.2 ⟨a, c, hk, h⟩)
  | some k0 =>
    obtain ⟨a0, c0, _, h⟩ := sat_lsI.1 h
    have h : sat E w (pts lb (.cells [Value.slice a0 k0.length c0].toArray 22 (0, 0)) * _) := h
    refine store_at (b := lb) h rfl (by simp) fun w h => kk w (sat_lsI.2 ⟨a, c, hk, ?_⟩)
    have h := h.perm (show _ = pers (immS (.slice a0 k0.length c0) k0.length (k0.map bv)) * (pts lb (.cells [Value.slice a k.length c].toArray 22 (0, 0)) * (pers (immS (.slice a k.length c) k.length (k.map bv)) * R)) by ac_rfl)
    exact h.drop
/-- The last key stands ahead of this one. -/
theorem last_test {lb : Nat} {last : Option Bs} {x : Ev} {e0 : Nat} (ho : ahead last x.e.k = true) (hx : EvR R x) (h : sat E w (pts e0 (.cells (ecells x).toArray 67 (0, 0)) * (lsI lb last * R)))
    {A B : World → Prop} (k : ∀ w', sat E w' (pts e0 (.cells (ecells x).toArray 67 (0, 0)) * (lsI lb last * R)) → B w') :
    bindS (vN (Instr.loadAt 22 (.pointer (some ⟨lb, 0, none⟩)))) fun m_37 => ldv prog (Instr.loadAt 22 (.pointer (some ⟨lb, 0, none⟩))) w fun t_36 w =>
            pvv prog (oEq .neq 22 (.tmp 94) (.const (.slice none 0 0)) t_36 (.slice none 0 0)) w fun t_38 w =>
            gate (some (t_38, true)) (fun K => K (.pointer (some ⟨lb, 0, none⟩)) w) w fun t_39 w =>
            gate (some (t_38, true)) (fun K => pv prog (oNil t_39) w K) w fun t_40 w =>
            gate (some (t_38, true)) (fun K => pvv prog (Instr.fieldAt 67 (.pointer (some ⟨e0, 0, none⟩)) 0) w K) w fun t_41 w =>
            bindS (vN (Instr.loadAt 22 t_40)) fun m_43 => gate (some (t_38, true)) (fun K => ldv prog (Instr.loadAt 22 t_40) w K) w fun t_42 w =>
            bindS (vN (Instr.loadAt 22 t_41)) fun m_45 => gate (some (t_38, true)) (fun K => ldv prog (Instr.loadAt 22 t_41) w K) w fun t_44 w =>
            gate (some (t_38, true)) (fun K => Calls prog 37 #[t_42, t_44] w (Ret fun s_52 w => stay prog none m_37 t_36 w <| K s_52 w)) w fun t_46 w =>
            gate (some (t_38, true)) (fun K => pvv prog (binOp .geq 3 t_46 (.int .i64 0)) w K) w fun t_47 w =>
            pv prog (oPick t_38 t_47 (.bool false)) w fun t_48 w =>
            cd t_48 (A w) (B w) := by
  simp only [↓opsA, opsB, if_true, if_false, ↓reduceIte]
  cases last with
  | none =>
    have h2 : sat E w (boxS lb (.slice none 0 0) * (pts e0 (.cells (ecells x).toArray 67 (0, 0)) * R)) := h.perm (star_left_comm _ _ _)
    refine ld_in (b := lb) (v := .slice none 0 0) h2 rfl ?_
    simp only [↓opsA, opsB, if_true, if_false, ↓reduceIte]
    exact k w h
  | some kb =>
    obtain ⟨a, c, hne, h2⟩ := sat_lsI.1 (h.perm (star_left_comm _ _ _))
    have hrd : Rds (boxS lb (.slice a kb.length c) * (pers (immS (.slice a kb.length c) kb.length (kb.map bv)) * (pts e0 (.cells (ecells x).toArray 67 (0, 0)) * R))) (.slice a kb.length c) kb.length (kb.map bv) := Rds.pers.left.right
    obtain ⟨b, o, hab, _⟩ := win_cell (hrd.win h2) (j := 0) (by rw [List.length_map]; exact List.length_pos_iff.2 hne)
    subst hab
    refine ld_in (b := lb) (v := .slice (some ⟨b, o, none⟩) kb.length c) h2 rfl ?_
    simp only [↓opsA, opsB, if_true, if_false, ↓reduceIte]
    refine ld_in (b := lb) (v := .slice (some ⟨b, o, none⟩) kb.length c) h2 rfl ?_
    refine ld_in (b := e0) (xs := ecells x) (v := x.kv) h2 rfl ?_
    refine Compare_spec h2 hrd hx.k.right.right.right ?_
    refine st_in (b := lb) (xs := [Value.slice (some ⟨b, o, none⟩) kb.length c]) h2 rfl ?_
    have hlt : Lib.compareBytes kb x.e.k < 0 := by
      have := cmp_lt kb x.e.k
      rw [show lexB kb x.e.k = true from ho] at this
      simpa using this
    have hge : ¬ (0 : Int) ≤ Lib.compareBytes kb x.e.k := by omega
    simp only [hge, ↓opsA, opsB, if_true, if_false, ↓reduceIte]
    exact k w h
end Go.Proofs.YtfaeklinhchidaaGreat
