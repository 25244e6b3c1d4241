/-
  Check.
-/
import Derived.Test.YtfaeklinhchidaaGreatPrsB
import Derived.Test.YtfaeklinhchidaaGreatTrpF
import Derived.Test.YtfaeklinhchidaaGreatWalT
set_option linter.all false
set_option maxRecDepth 100000
namespace Go.Proofs.YtfaeklinhchidaaGreat
open Go Hold
variable {E : World0} {w : World} {H R X : HP} {K : Value → World → Prop}
structure CheckOk (N : Nat) (s : St) (ps fr : List Nat) : Prop where
  t : (s.root = 0 ∧ ps = []) ∨ (s.root ≠ 0 ∧ ∃ high last, lookS N s.root s.fresh s.cc 3 s.root ([], none) = some (high, (ps, last)))
  c : Chain s.cc s.free fr
  m : ∀ p ∈ fr, p ≠ 0 ∧ p < s.fresh
  d : (ps ++ fr).Nodup
  n : ps.length + fr.length + 1 = s.fresh
  f : s.fresh ≤ N
theorem nv3_iv (ps : List Nat) : ps.map nv3 = (ps.map (fun p : Nat => (p : Int))).map iv := by rw [List.map_map]; rfl
theorem seenM_len (ps : List Nat) : (seenM ps).length = ps.length := by unfold seenM pinsM; simp
/-- A list of numbers that grows. -/
theorem push_int {v : Value} {a : Option Addr} {ps : List Nat} {c p : Nat} (hv : v = .slice a ps.length c) (hp : ps.length ≤ 100000) (h : sat E w (osl 3 1 v ps.length (ps.map nv3) * R))
    (k : ∀ a' c' w', sat E w' (osl 3 1 (.slice a' (ps ++ [p]).length c') (ps ++ [p]).length ((ps ++ [p]).map nv3) * R) → K (.slice a' (ps ++ [p]).length c') w') :
    efv prog (Instr.buildSlice 29 1 #[(0, .int .i64 p)]) w fun t_4 w => ef prog (oBi .append #[29, 29] 29 #[false, false] #[v, t_4]) w K := by
  refine buildSlice_sl (e := 3) (cs := [Value.int .i64 p].toArray) h (fun w => by kernel_rfl) fun b3 w h => ?_
  have h := h.owns v
  refine append_sl h [nv3 p] rfl (.inr ⟨b3, 0, _, 3, (0, 0), rfl, h.drop.pts_get, fun j u hj => by simpa [nv3] using hj⟩) (by simp [nv3, Value.oneCell']) (by omega) (by omega) fun pv w h => ?_
  obtain ⟨pa, pc, rfl, _, _, _⟩ := osl_shape h
  have h := (h.perm (star_left_comm _ _ _)).drop
  have := k pa pc w
  rw [List.length_append, List.map_append] at this
  exact this h
theorem CheckT_spec {tb : Nat} {A : Ad} {N : Nat} (le : N ≤ 1000) {s : St} {k0 c : Nat} {ps fr : List Nat} (ck : CheckOk N s ps fr) (hok : ∀ p, p < N → (s.cc p).Ok) (h : sat E w (trT tb A N s 0 k0 (c + (ps.length + fr.length)) * R))
    (k : ∀ hg a c' v2 v3 l w', v2.oneCell' = true → v3.oneCell' = true → sat E w' (trT tb A N s 0 k0 c * R) → K (.tuple #[.agg [Value.int .i64 hg, .slice a ps.length c', v2, v3, .int .i64 l].toArray, .int .i64 0]) w') : Calls prog 8 #[.pointer (some ⟨tb, 0, none⟩)] w (Ret K) := by
  have hfs := ck.f; have hn := ck.n
  refine c8 ?_
  unfold B8
  refine alloc_sl h fun rb w h => ?_
  have h : sat E w (pts rb (.cells [Value.int .i64 0, .slice none 0 0, .slice none 0 0, .slice none 0 0, .int .i64 0].toArray 31 (0, 0)) * _) := h
  refine alloc_sl h fun eb w h => ?_
  have h : sat E w (pts eb (.cells [Value.int .i64 0].toArray 24 (0, 0)) * _) := h
  rw [o_eqPtr, Option.isNone_some, cd_false]
  refine pvv_of (v := .func (.func 24) #[] #[.pointer (some ⟨rb, 0, none⟩), .pointer (some ⟨eb, 0, none⟩)]) (fun w => by kernel_rfl) ?_
  refine ⟨trivial, ?_⟩
  refine make_map h fun sm w h => ?_
  refine alloc_sl h fun lb w h => ?_
  have h : sat E w (boxS lb (.slice none 0 0) * (omap sm [] * (pts eb (.cells [Value.int .i64 0].toArray 24 (0, 0)) * (pts rb (.cells [Value.int .i64 0, .slice none 0 0, .slice none 0 0, .slice none 0 0, .int .i64 0].toArray 31 (0, 0)) * (trT tb A N s 0 k0 (c + (ps.length + fr.length)) * R))))) := h
  have h := h.perm (show _ = pts rb (.cells [Value.int .i64 0, .slice none 0 0, .slice none 0 0, .slice none 0 0, .int .i64 0].toArray 31 (0, 0)) * (boxS lb (.slice none 0 0) * (omap sm [] * (pts eb (.cells [Value.int .i64 0].toArray 24 (0, 0)) * (trT tb A N s 0 k0 (c + (ps.length + fr.length)) * R)))) by ac_rfl)
  have h := osl_nil h 3 1
  have h : sat E w (rpI rb 0 [] * (boxS lb (.slice none 0 0) * (omap sm [] * (pts eb (.cells [Value.int .i64 0].toArray 24 (0, 0)) * (trT tb A N s 0 k0 (c + (ps.length + fr.length)) * R))))) := sat_rpI.2 ⟨none, 0, 0, by omega, h.perm (star_left_comm _ _ _)⟩
  have h : sat E w (lkI tb A N s k0 (c + (ps.length + fr.length)) rb lb sm 0 ([], none) * (pts eb (.cells [Value.int .i64 0].toArray 24 (0, 0)) * R)) := h.perm (by unfold lkI lsI seenM pinsM; show rpI rb 0 [] * (boxS lb (.slice none 0 0) * (omap sm [] * _)) = _; simp only [List.map_nil]; ac_rfl)
  refine jn_cut (fun σ w => ∃ hg last, σ = [] ∧ sat E w (lkI tb A N s k0 (c + fr.length) rb lb sm hg (ps, last) * (pts eb (.cells [Value.int .i64 0].toArray 24 (0, 0)) * R))) ?_ ?_
  · intro kk hk
    have htb := h.perm (show _ = pts tb (.cells [Value.int .i64 s.root, .int .i64 s.free, .int .i64 s.fresh, .pointer (some ⟨A.q, 0, none⟩)].toArray 73 (0, 0)) * (pX A N s.cc 0 k0 (c + (ps.length + fr.length)) * (rpI rb 0 [] * (lsI lb none * (omap sm (seenM []) * (pts eb (.cells [Value.int .i64 0].toArray 24 (0, 0)) * R))))) by unfold lkI trT; ac_rfl)
    rw [o_nil, o_field, o_field]
    refine ld_in (b := tb) (v := .int .i64 s.root) htb rfl ?_
    rcases ck.t with ⟨h0, hps⟩ | ⟨h0, high, last, hlk⟩
    · have h0' : (s.root : Int) = 0 := by omega
      simp only [h0', decide_true, ↓opsA, opsB, if_true, if_false, ↓reduceIte]
      refine hk _ _ ⟨0, none, rfl, ?_⟩
      rw [hps] at h ⊢
      simp only [List.length_nil, Nat.zero_add] at h
      exact h
    · have h0' : ¬ (s.root : Int) = 0 := by omega
      simp only [h0', ↓opsA, opsB, if_true, if_false, ↓reduceIte]
      refine ld_in (b := tb) (v := .int .i64 s.root) htb rfl ?_
      have h : sat E w (lkI tb A N s k0 ((c + fr.length) + (ps.length - ([] : List Nat).length)) rb lb sm 0 ([], none) * (pts eb (.cells [Value.int .i64 0].toArray 24 (0, 0)) * R)) := by
        rw [show (c + fr.length) + (ps.length - ([] : List Nat).length) = c + (ps.length + fr.length) by simp; omega]; exact h
      refine below_spec le (B := ps.length) (by omega) (by omega) hok 3 (by omega) hlk (Nat.le_refl _) h fun w hhi h => ?_
      simp only at h hhi
      rw [Nat.sub_self, Nat.add_zero] at h
      obtain ⟨ra, rc, l, hl, h⟩ := sat_rpI.1 (h.perm (show _ = rpI rb 0 ps * (trT tb A N s 0 k0 (c + fr.length) * (lsI lb last * (omap sm (seenM ps) * (pts eb (.cells [Value.int .i64 0].toArray 24 (0, 0)) * R)))) by unfold lkI; ac_rfl))
      refine store_at (b := rb) h rfl (by simp) fun w h => ?_
      refine hk _ _ ⟨high, last, rfl, ?_⟩
      exact (sat_rpI.2 ⟨ra, rc, l, hl, h⟩).perm (by unfold lkI; ac_rfl)
  clear h
  rintro σ w ⟨hg, last, rfl, h⟩
  rw [fin_nil]
  obtain ⟨ra, rc, l, hl, h⟩ := sat_rpI.1 (h.perm (show _ = rpI rb hg ps * (trT tb A N s 0 k0 (c + fr.length) * (lsI lb last * (omap sm (seenM ps) * (pts eb (.cells [Value.int .i64 0].toArray 24 (0, 0)) * R)))) by unfold lkI; ac_rfl))
  have htb : ∀ {w : World} {Y1 Y2 : HP} {c' : Nat}, sat E w (Y1 * (trT tb A N s 0 k0 c' * Y2)) → sat E w (pts tb (.cells [Value.int .i64 s.root, .int .i64 s.free, .int .i64 s.fresh, .pointer (some ⟨A.q, 0, none⟩)].toArray 73 (0, 0)) * (pX A N s.cc 0 k0 c' * (Y1 * Y2))) := fun h => h.perm (by unfold trT; ac_rfl)
  have htb' : ∀ {w : World} {Y1 Y2 : HP} {c' : Nat}, sat E w (pX A N s.cc 0 k0 c' * (pts tb (.cells [Value.int .i64 s.root, .int .i64 s.free, .int .i64 s.fresh, .pointer (some ⟨A.q, 0, none⟩)].toArray 73 (0, 0)) * (Y1 * Y2))) → sat E w (Y1 * (trT tb A N s 0 k0 c' * Y2)) := fun h => h.perm (by unfold trT; ac_rfl)
  rw [o_nil, o_field, o_field]
  have hq := h.perm (show _ = (pts rb (.cells [Value.int .i64 hg, .slice ra ps.length rc, .slice none 0 0, .slice none 0 0, .int .i64 (l : Nat)].toArray 31 (0, 0)) * osl 3 1 (.slice ra ps.length rc) ps.length (ps.map nv3)) * (trT tb A N s 0 k0 (c + fr.length) * (lsI lb last * (omap sm (seenM ps) * (pts eb (.cells [Value.int .i64 0].toArray 24 (0, 0)) * R)))) by ac_rfl)
  refine ld_in (b := tb) (v := .int .i64 s.free) (htb hq) rfl ?_
  refine lp_nat (fun q σ w => ∃ (done rest : List Nat) (n : Nat) (fa : Option Addr) (fc : Nat), σ = [.int .i64 n] ∧ q = rest.length ∧ fr = done ++ rest ∧ Chain s.cc n rest ∧
    sat E w ((pts rb (.cells [Value.int .i64 hg, .slice ra ps.length rc, .slice fa done.length fc, .slice none 0 0, .int .i64 (l : Nat)].toArray 31 (0, 0)) * (osl 3 1 (.slice ra ps.length rc) ps.length (ps.map nv3) * osl 3 1 (.slice fa done.length fc) done.length (done.map nv3))) * (trT tb A N s 0 k0 (c + rest.length) * (omap sm (seenM (ps ++ done)) * (pts eb (.cells [Value.int .i64 0].toArray 24 (0, 0)) * R))))) fr.length ⟨[], fr, s.free, none, 0, rfl, rfl, rfl, ck.c, ?_⟩ ?_
  · rw [List.append_nil]
    have h := h.perm (show _ = lsI lb last * ((pts rb (.cells [Value.int .i64 hg, .slice ra ps.length rc, .slice none 0 0, .slice none 0 0, .int .i64 (l : Nat)].toArray 31 (0, 0)) * osl 3 1 (.slice ra ps.length rc) ps.length (ps.map nv3)) * (trT tb A N s 0 k0 (c + fr.length) * (omap sm (seenM ps) * (pts eb (.cells [Value.int .i64 0].toArray 24 (0, 0)) * R)))) by ac_rfl)
    have h := osl_nil h.drop 3 1
    exact h.perm (by simp only [List.map_nil, List.length_nil]; ac_rfl)
  clear h hq
  rintro q σ w again ⟨done, rest, n, fa, fc, rfl, rfl, hfr, hch, h⟩ hag
  rw [pop_cons, fin_nil, o_neInt]
  cases rest with
  | cons p rest =>
    obtain ⟨rfl, nx, hcc, hch⟩ := hch
    have hpm := ck.m n (by rw [hfr]; simp)
    have hpN : n < N := by omega
    have hnx : nx < 65536 := by have := hok n hpN; rw [hcc] at this; exact this
    have hnd := ck.d
    rw [hfr] at hnd
    have hnin : n ∉ ps ++ done := fun hin => by
      rw [← List.append_assoc, List.nodup_append] at hnd
      exact hnd.2.2 n hin n (by simp) rfl
    have h0 : ¬ (n : Int) = 0 := by omega
    simp only [h0, decide_false, Bool.not_false, cd_true]
    have h1 : ¬ (s.fresh : Int) ≤ (n : Int) := by omega
    rw [o_nil, o_field, o_field]
    refine ld_in (b := tb) (v := .int .i64 s.fresh) (htb h) rfl ?_
    rw [o_geq]
    simp only [h1, ↓opsA, opsB, if_true, if_false, ↓reduceIte]
    refine look1_ld (b := sm) h ?_
    rw [seen_look, if_neg hnin]
    simp only [Option.getD_none, ↓opsA, opsB, if_true, if_false, ↓reduceIte]
    have h := h.perm (show _ = omap sm (seenM (ps ++ done)) * ((pts rb (.cells [Value.int .i64 hg, .slice ra ps.length rc, .slice fa done.length fc, .slice none 0 0, .int .i64 (l : Nat)].toArray 31 (0, 0)) * (osl 3 1 (.slice ra ps.length rc) ps.length (ps.map nv3) * osl 3 1 (.slice fa done.length fc) done.length (done.map nv3))) * (trT tb A N s 0 k0 (c + (n :: rest).length) * (pts eb (.cells [Value.int .i64 0].toArray 24 (0, 0)) * R))) by ac_rfl)
    refine update_sl (b := sm) h fun w h => ?_
    rw [seen_put hnin] at h
    have h := h.perm (show _ = osl 3 1 (.slice fa done.length fc) done.length (done.map nv3) * (pts rb (.cells [Value.int .i64 hg, .slice ra ps.length rc, .slice fa done.length fc, .slice none 0 0, .int .i64 (l : Nat)].toArray 31 (0, 0)) * (osl 3 1 (.slice ra ps.length rc) ps.length (ps.map nv3) * (trT tb A N s 0 k0 (c + (n :: rest).length) * (omap sm (seenM (ps ++ done ++ [n])) * (pts eb (.cells [Value.int .i64 0].toArray 24 (0, 0)) * R))))) by ac_rfl)
    refine ld_in (b := rb) (v := .slice fa done.length fc) h rfl ?_
    have hfl : fr.length = done.length + (rest.length + 1) := by rw [hfr]; simp
    refine push_int rfl (by omega) h fun a' c' w h => ?_
    try simp only [↓opsA, opsB, if_true, if_false, ↓reduceIte]
    have h := h.perm (show _ = pts rb (.cells [Value.int .i64 hg, .slice ra ps.length rc, .slice fa done.length fc, .slice none 0 0, .int .i64 (l : Nat)].toArray 31 (0, 0)) * (osl 3 1 (.slice a' (done ++ [n]).length c') (done ++ [n]).length ((done ++ [n]).map nv3) * (osl 3 1 (.slice ra ps.length rc) ps.length (ps.map nv3) * (trT tb A N s 0 k0 (c + (n :: rest).length) * (omap sm (seenM (ps ++ done ++ [n])) * (pts eb (.cells [Value.int .i64 0].toArray 24 (0, 0)) * R))))) by ac_rfl)
    refine store_at (b := rb) h rfl (by simp) fun w h => ?_
    try simp only [↓opsA, opsB, if_true, if_false, ↓reduceIte]
    have h := h.perm (show _ = (pts rb (.cells [Value.int .i64 hg, .slice ra ps.length rc, .slice a' (done ++ [n]).length c', .slice none 0 0, .int .i64 (l : Nat)].toArray 31 (0, 0)) * (osl 3 1 (.slice ra ps.length rc) ps.length (ps.map nv3) * osl 3 1 (.slice a' (done ++ [n]).length c') (done ++ [n]).length ((done ++ [n]).map nv3))) * (trT tb A N s 0 k0 (c + (n :: rest).length) * (omap sm (seenM (ps ++ done ++ [n])) * (pts eb (.cells [Value.int .i64 0].toArray 24 (0, 0)) * R))) by ac_rfl)
    refine ld_in (b := tb) (v := .pointer (some ⟨A.q, 0, none⟩)) (htb h) rfl ?_
    have h := (htb h).perm (show _ = pX A N s.cc 0 k0 (c + (n :: rest).length) * (pts tb (.cells [Value.int .i64 s.root, .int .i64 s.free, .int .i64 s.fresh, .pointer (some ⟨A.q, 0, none⟩)].toArray 73 (0, 0)) * ((pts rb (.cells [Value.int .i64 hg, .slice ra ps.length rc, .slice a' (done ++ [n]).length c', .slice none 0 0, .int .i64 (l : Nat)].toArray 31 (0, 0)) * (osl 3 1 (.slice ra ps.length rc) ps.length (ps.map nv3) * osl 3 1 (.slice a' (done ++ [n]).length c') (done ++ [n]).length ((done ++ [n]).map nv3))) * (omap sm (seenM (ps ++ done ++ [n])) * (pts eb (.cells [Value.int .i64 0].toArray 24 (0, 0)) * R)))) by ac_rfl)
    have h : sat E w (pX A N s.cc 0 k0 (c + rest.length + 1) * _) := h
    refine XRead_spec h hpN fun v w h => ?_
    rw [hcc] at h
    have hrd := (Rds.osl (e := 5) (sz := 1) (v := v) (n := 256) (xs := (PgC.free nx).bytes.map bv)).left (X := (pX A N s.cc 0 k0 (c + rest.length) * (pts tb (.cells [Value.int .i64 s.root, .int .i64 s.free, .int .i64 s.fresh, .pointer (some ⟨A.q, 0, none⟩)].toArray 73 (0, 0)) * ((pts rb (.cells [Value.int .i64 hg, .slice ra ps.length rc, .slice a' (done ++ [n]).length c', .slice none 0 0, .int .i64 (l : Nat)].toArray 31 (0, 0)) * (osl 3 1 (.slice ra ps.length rc) ps.length (ps.map nv3) * osl 3 1 (.slice a' (done ++ [n]).length c') (done ++ [n]).length ((done ++ [n]).map nv3))) * (omap sm (seenM (ps ++ done ++ [n])) * (pts eb (.cells [Value.int .i64 0].toArray 24 (0, 0)) * R))))))
    obtain ⟨va, vc, rfl, hvc, _, _⟩ := hrd.shape h
    obtain ⟨vb, vo, hab, _⟩ := win_cell (hrd.win h) (j := 0) (by rw [List.length_map, PgC.len (x := .free nx) hnx]; omega)
    subst hab
    simp only [↓opsA, opsB, if_true, if_false, ↓reduceIte]
    refine dr_sl h fun w h _ => ?_
    rw [o_index (by omega) (by omega)]
    try simp only [↓opsA, opsB, if_true, if_false, ↓reduceIte]
    rw [o_index (by omega) (by omega)]
    simp only [↓opsA, opsB, if_true, if_false, ↓reduceIte, show (1 : Int).toNat * 1 = 1 from rfl, show (2 : Int).toNat * 1 = 2 from rfl]
    refine ld_cell (v := bv (hi8 nx)) (byte_at hrd h (j := 1) rfl) ?_
    have := (hi8 nx).toNat_lt
    have := (lo8 nx).toNat_lt
    unfold bv
    simp only [↓opsA, opsB, if_true, if_false, ↓reduceIte]
    rw [i64_of (n := ((hi8 nx).toNat : Int)) (by omega) (by omega), shl16]
    refine ld_cell (v := bv (lo8 nx)) (byte_at hrd h (j := 2) rfl) ?_
    unfold bv
    simp only [↓opsA, opsB, if_true, if_false, ↓reduceIte]
    rw [i64_of (n := ((lo8 nx).toNat : Int)) (by omega) (by omega), two16 hnx]
    refine hag rest.length _ _ (by simp) ⟨done ++ [n], rest, nx, a', c', rfl, rfl, by rw [hfr]; simp, hch, ?_⟩
    rw [← List.append_assoc]
    exact htb' h.drop
  | nil =>
    have hch : n = 0 := hch
    have h0 : (n : Int) = 0 := by omega
    simp only [h0, decide_true, Bool.not_true, cd_false]
    rw [List.append_nil] at hfr
    subst hfr
    refine dr_sl h fun w h _ => ?_
    try simp only [↓opsA, opsB, if_true, if_false, ↓reduceIte]
    refine len_ld (b := sm) h ?_
    rw [seenM_len]
    refine ld_in (b := tb) (v := .int .i64 s.fresh) (htb h) rfl ?_
    try simp only [↓opsA, opsB, if_true, if_false, ↓reduceIte]
    have hl1 : ((ps ++ fr).length : Int) = (s.fresh : Int) - 1 := by rw [List.length_append]; omega
    rw [i64_of (n := (s.fresh : Int) - 1) (by omega) (by omega)]
    simp only [hl1, decide_true, ↓opsA, opsB, if_true, if_false, ↓reduceIte]
    refine ld_in (b := tb) (v := .int .i64 s.fresh) (htb h) rfl ?_
    refine lp_nat (fun q σ w => ∃ (gs : List Nat) (ga : Option Addr) (gc : Nat), σ = [.int .i64 ((s.fresh + gs.length : Nat) : Int)] ∧ q = N - (s.fresh + gs.length) ∧ s.fresh + gs.length ≤ N ∧
      sat E w ((pts rb (.cells [Value.int .i64 hg, .slice ra ps.length rc, .slice fa fr.length fc, .slice ga gs.length gc, .int .i64 (l : Nat)].toArray 31 (0, 0)) * (osl 3 1 (.slice ra ps.length rc) ps.length (ps.map nv3) * (osl 3 1 (.slice fa fr.length fc) fr.length (fr.map nv3) * osl 3 1 (.slice ga gs.length gc) gs.length (gs.map nv3)))) * (trT tb A N s 0 k0 c * (pts eb (.cells [Value.int .i64 0].toArray 24 (0, 0)) * R)))) (N - s.fresh) ⟨[], none, 0, rfl, rfl, by simpa using hfs, ?_⟩ ?_
    · have h := h.perm (show _ = omap sm (seenM (ps ++ fr)) * ((pts rb (.cells [Value.int .i64 hg, .slice ra ps.length rc, .slice fa fr.length fc, .slice none 0 0, .int .i64 (l : Nat)].toArray 31 (0, 0)) * (osl 3 1 (.slice ra ps.length rc) ps.length (ps.map nv3) * osl 3 1 (.slice fa fr.length fc) fr.length (fr.map nv3))) * (trT tb A N s 0 k0 (c + ([] : List Nat).length) * (pts eb (.cells [Value.int .i64 0].toArray 24 (0, 0)) * R))) by ac_rfl)
      have h := osl_nil h.drop 3 1
      exact h.perm (by simp only [List.map_nil, List.length_nil, Nat.add_zero]; ac_rfl)
    clear h hag
    rintro q σ w again ⟨gs, ga, gc, rfl, rfl, hgN, h⟩ hag
    try simp only [↓opsA, opsB, if_true, if_false, ↓reduceIte]
    refine ld_in (b := tb) (v := .pointer (some ⟨A.q, 0, none⟩)) (htb h) rfl ?_
    generalize hO : pts rb (.cells [Value.int .i64 hg, .slice ra ps.length rc, .slice fa fr.length fc, .slice ga gs.length gc, .int .i64 (l : Nat)].toArray 31 (0, 0)) * (osl 3 1 (.slice ra ps.length rc) ps.length (ps.map nv3) * (osl 3 1 (.slice fa fr.length fc) fr.length (fr.map nv3) * osl 3 1 (.slice ga gs.length gc) gs.length (gs.map nv3))) = O at h
    have h := (htb h).perm (show _ = pX A N s.cc 0 k0 c * (pts tb (.cells [Value.int .i64 s.root, .int .i64 s.free, .int .i64 s.fresh, .pointer (some ⟨A.q, 0, none⟩)].toArray 73 (0, 0)) * (O * (pts eb (.cells [Value.int .i64 0].toArray 24 (0, 0)) * R))) by ac_rfl)
    refine XLog_spec h ?_
    refine XPages_spec h fun w h => ?_
    have h := htb' h
    rw [← hO] at h
    try simp only [↓opsA, opsB, if_true, if_false, ↓reduceIte]
    refine cd_dec (fun hlt => ?_) (fun hge => ?_)
    · have hlt : s.fresh + gs.length < N := by omega
      have h := h.perm (show _ = osl 3 1 (.slice ga gs.length gc) gs.length (gs.map nv3) * (pts rb (.cells [Value.int .i64 hg, .slice ra ps.length rc, .slice fa fr.length fc, .slice ga gs.length gc, .int .i64 (l : Nat)].toArray 31 (0, 0)) * (osl 3 1 (.slice ra ps.length rc) ps.length (ps.map nv3) * (osl 3 1 (.slice fa fr.length fc) fr.length (fr.map nv3) * (trT tb A N s 0 k0 c * (pts eb (.cells [Value.int .i64 0].toArray 24 (0, 0)) * R))))) by ac_rfl)
      refine ld_in (b := rb) (v := .slice ga gs.length gc) h rfl ?_
      refine push_int rfl (by omega) h fun a' c' w h => ?_
      try simp only [↓opsA, opsB, if_true, if_false, ↓reduceIte]
      have h := h.perm (show _ = pts rb (.cells [Value.int .i64 hg, .slice ra ps.length rc, .slice fa fr.length fc, .slice ga gs.length gc, .int .i64 (l : Nat)].toArray 31 (0, 0)) * (osl 3 1 (.slice a' (gs ++ [s.fresh + gs.length]).length c') (gs ++ [s.fresh + gs.length]).length ((gs ++ [s.fresh + gs.length]).map nv3) * (osl 3 1 (.slice ra ps.length rc) ps.length (ps.map nv3) * (osl 3 1 (.slice fa fr.length fc) fr.length (fr.map nv3) * (trT tb A N s 0 k0 c * (pts eb (.cells [Value.int .i64 0].toArray 24 (0, 0)) * R))))) by ac_rfl)
      refine store_at (b := rb) h rfl (by simp) fun w h => ?_
      try simp only [↓opsA, opsB, if_true, if_false, ↓reduceIte]
      rw [i64_of (by omega) (by omega)]
      have hgl : (gs ++ [s.fresh + gs.length]).length = gs.length + 1 := by simp
      refine hag (N - (s.fresh + (gs.length + 1))) _ _ (by omega) ⟨gs ++ [s.fresh + gs.length], a', c', ?_, by rw [hgl], by rw [hgl]; omega, ?_⟩
      · rw [hgl]; congr 2
      · exact h.perm (by ac_rfl)
    · have h := h.perm (show _ = osl 3 1 (.slice ra ps.length rc) ps.length (ps.map nv3) * (pts rb (.cells [Value.int .i64 hg, .slice ra ps.length rc, .slice fa fr.length fc, .slice ga gs.length gc, .int .i64 (l : Nat)].toArray 31 (0, 0)) * (osl 3 1 (.slice fa fr.length fc) fr.length (fr.map nv3) * (osl 3 1 (.slice ga gs.length gc) gs.length (gs.map nv3) * (trT tb A N s 0 k0 c * (pts eb (.cells [Value.int .i64 0].toArray 24 (0, 0)) * R))))) by ac_rfl)
      refine ld_in (b := rb) (v := .slice ra ps.length rc) h rfl ?_
      have hpl : (ps.map (fun p : Nat => (p : Int))).length = ps.length := by simp
      have hfl : (fr.map (fun p : Nat => (p : Int))).length = fr.length := by simp
      rw [nv3_iv, ← hpl] at h
      rw [← hpl]
      refine KU.Sort_spec h (by rw [hpl]; omega) fun w h => ?_
      have h := h.drop
      rw [hpl] at h
      refine ld_in (b := rb) (v := .slice fa fr.length fc) h rfl ?_
      have h := h.perm (show _ = osl 3 1 (.slice fa fr.length fc) fr.length (fr.map nv3) * (pts rb (.cells [Value.int .i64 hg, .slice ra ps.length rc, .slice fa fr.length fc, .slice ga gs.length gc, .int .i64 (l : Nat)].toArray 31 (0, 0)) * (osl 3 1 (.slice ga gs.length gc) gs.length (gs.map nv3) * (trT tb A N s 0 k0 c * (pts eb (.cells [Value.int .i64 0].toArray 24 (0, 0)) * R)))) by ac_rfl)
      rw [nv3_iv, ← hfl] at h
      rw [← hfl]
      refine KU.Sort_spec h (by rw [hfl]; omega) fun w h => ?_
      have h := h.drop
      rw [hfl] at h
      refine ld_agg (b := rb) h rfl ?_
      refine store_all (b := rb) h rfl rfl (by simp [Value.oneCell']) fun w h => ?_
      refine store_at (b := eb) h rfl (by simp) fun w h => ?_
      refine dfr_check ?_
      obtain ⟨r1, hr1, e1⟩ := res_agg (P := prog) (t := 31) (b := rb) (K := fun r _ => r = .agg [Value.int .i64 hg, .slice ra ps.length rc, .slice fa fr.length fc, .slice ga gs.length gc, .int .i64 (l : Nat)].toArray) h rfl rfl
      obtain ⟨r2, hr2, e2⟩ := res_one (P := prog) (t := 24) (b := eb) (K := fun r _ => r = .int .i64 0) h rfl rfl
      refine ⟨r1, hr1, r2, hr2, ?_⟩
      rw [e1, e2]
      refine k hg ra rc _ _ (l : Nat) w rfl rfl ?_
      exact (h.perm (show _ = pts eb (.cells [Value.int .i64 0].toArray 24 (0, 0)) * (pts rb (.cells [Value.int .i64 hg, .slice ra ps.length rc, .slice fa fr.length fc, .slice ga gs.length gc, .int .i64 (l : Nat)].toArray 31 (0, 0)) * (osl 3 1 (.slice ga gs.length gc) gs.length (gs.map nv3) * (trT tb A N s 0 k0 c * R))) by ac_rfl)).drop.drop.drop
end Go.Proofs.YtfaeklinhchidaaGreat

/-
  A disk: cuts.
-/
set_option linter.all false
set_option maxRecDepth 100000
namespace Go.Proofs.YtfaeklinhchidaaGreat
open Go Hold
variable {E : World0} {w : World} {H R : HP} {K : Value → World → Prop}
end Go.Proofs.YtfaeklinhchidaaGreat
