/-
  A change that is being done: what it holds; a page is read, is taken, is given back.
-/
import Derived.Test.YtfaeklinhchidaaGreatTreD
set_option linter.all false
set_option maxRecDepth 100000
namespace Go.Proofs.YtfaeklinhchidaaGreat
open Go Hold
variable {E : World0} {w : World} {H R X : HP} {K : Value → World → Prop}
/-- What a change has written, over what there was. -/
structure MapOk (N : Nat) (ct cc : Nat → PgC) (wn : Nat) (D : List (Int × Bs)) : Prop where
  nd : (D.map (·.1)).Nodup
  mem : ∀ x ∈ D, (0 ≤ x.1 ∧ x.1 < N) ∧ ∃ y : PgC, y.Ok ∧ x.2 = y.bytes
  len : D.length ≤ wn
  look : ∀ p, p < N → (lookB D p).getD (ct p).bytes = (cc p).bytes
  ok : ∀ p, p < N → (cc p).Ok
theorem MapOk.put {N : Nat} {ct cc : Nat → PgC} {wn : Nat} {D : List (Int × Bs)} (h : MapOk N ct cc wn D) {p : Nat} (hp : p < N) {y : PgC} (hy : y.Ok) : MapOk N ct (upd cc p y) (wn + 1) (putB D p y.bytes) := by
  refine ⟨putB_nodup h.nd, fun x hx => ?_, ?_, fun q hq => ?_, fun q hq => ?_⟩
  · rcases putB_mem hx with rfl | hx
    · exact ⟨⟨by omega, by show (p : Int) < N; omega⟩, y, hy, rfl⟩
    · exact h.mem x hx
  · have := h.len
    rw [putB_len]; split <;> omega
  · rw [lookB_put]
    unfold upd
    by_cases e : q = p
    · subst e; rw [if_pos rfl, if_pos rfl]; rfl
    · rw [if_neg (by omega), if_neg e]; exact h.look q hq
  · unfold upd
    by_cases e : q = p
    · rw [if_pos e]; exact hy
    · rw [if_neg e]; exact h.ok q hq
def chM (mo : Option Nat) (N : Nat) (ct cc : Nat → PgC) (wn : Nat) : HP := match mo with
  | none => pur (MapOk N ct cc wn [])
  | some m => ex fun q : List (Int × Value) × List (Int × Bs) => pur (MapOk N ct cc wn q.2) * (omap m q.1 * pers (immM q.1 q.2))
/-- Where a change stands. -/
structure Cx where
  cb : Nat
  tb : Nat
  mo : Option Nat
  A : Ad
  N : Nat
  ct : Nat → PgC
  hd : Nat × Nat × Nat
  kk : Nat
  le : N ≤ 1000
def ccells (C : Cx) (s : St) : List Value := [.int .i64 s.root, .int .i64 s.free, .int .i64 s.fresh, .pointer (some ⟨C.tb, 0, none⟩), .map C.mo]
def tcells (C : Cx) : List Value := [.int .i64 C.hd.1, .int .i64 C.hd.2.1, .int .i64 C.hd.2.2, .pointer (some ⟨C.A.q, 0, none⟩)]
def chg (C : Cx) (c : Nat) (s : St) : HP := pts C.cb (.cells (ccells C s).toArray 124 (0, 0)) * (pts C.tb (.cells (tcells C).toArray 73 (0, 0)) * (chM C.mo C.N C.ct s.cc s.w * pX C.A C.N C.ct 0 C.kk c))
theorem sat_chg {C : Cx} {c : Nat} {s : St} : sat E w (chg C c s * R) ↔ sat E w (pts C.cb (.cells (ccells C s).toArray 124 (0, 0)) * (pts C.tb (.cells (tcells C).toArray 73 (0, 0)) * (chM C.mo C.N C.ct s.cc s.w * (pX C.A C.N C.ct 0 C.kk c * R)))) := by
  unfold chg; simp only [star_assoc]
theorem look_nilmap {P : Program} {t kt vt : Nat} {k : Int} {z : Value} [i : Ul P t (.map kt vt)] [j : Ul P kt (.int .i64)] [q : ZeroC P vt z]
    (kk : K (.tuple #[z, .bool false]) w) : ldv P (Instr.lookup t (.map none) (.int .i64 k) true) w K := by
  refine ldv_of ?_ kk
  have hf := run_findKey (P := P) (w := w) j.ul (k := k) (l := []) (ns := []) rfl
  simp [ents, findM] at hf
  simp [Instr.lookup, run_underlying' i.ul, run_checkKey j.ul, run_zero q, hf]
theorem look_ok {N : Nat} {ct cc : Nat → PgC} {wn : Nat} {D : List (Int × Bs)} (h : MapOk N ct cc wn D) {p : Nat} (hp : p < N) : (lookB D p = none → (ct p).bytes = (cc p).bytes) ∧ (∀ b, lookB D p = some b → b = (cc p).bytes) := by
  have := h.look p hp
  refine ⟨fun e => ?_, fun b e => ?_⟩ <;> rw [e] at this <;> exact this
theorem sat_chM {m N : Nat} {ct cc : Nat → PgC} {wn : Nat} : sat E w (chM (some m) N ct cc wn * R) ↔ ∃ ds D, MapOk N ct cc wn D ∧ sat E w (omap m ds * (pers (immM ds D) * R)) := by
  unfold chM
  simp only
  rw [sat_ex_star]
  constructor
  · rintro ⟨⟨ds, D⟩, h⟩
    simp only [star_assoc] at h
    rw [sat_pur_star] at h
    exact ⟨ds, D, h.1, h.2⟩
  · rintro ⟨ds, D, h1, h2⟩
    refine ⟨(ds, D), ?_⟩
    simp only [star_assoc]
    rw [sat_pur_star]
    exact ⟨h1, h2⟩
theorem sat_chM0 {N : Nat} {ct cc : Nat → PgC} {wn : Nat} : sat E w (chM none N ct cc wn * R) ↔ MapOk N ct cc wn [] ∧ sat E w R := by
  unfold chM
  simp only
  rw [sat_pur_star]
/-- What a lookup in a change's pages finds. -/
theorem chM_look {mo : Option Nat} {N : Nat} {ct cc : Nat → PgC} {wn p : Nat} (hpN : p < N) (h : sat E w (chM mo N ct cc wn * R))
    (k0 : (ct p).bytes = (cc p).bytes → K (.tuple #[.slice none 0 0, .bool false]) w)
    (k1 : ∀ a c, sat E w (pers (immS (.slice a 256 c) 256 ((cc p).bytes.map bv)) * (chM mo N ct cc wn * R)) → K (.tuple #[.slice a 256 c, .bool true]) w) :
    ldv prog (Instr.lookup 117 (.map mo) (.int .i64 p) true) w K := by
  cases mo with
  | none => exact look_nilmap (k0 ((look_ok (sat_chM0.1 h).1 hpN).1 rfl))
  | some m =>
    obtain ⟨ds, D, ok, h⟩ := sat_chM.1 h
    have hrel : relM (hp w) ds D := (h.split (pers (immM ds D))).pers_get
    refine look_d (b := m) h ?_
    rcases hrel.look (k := (p : Int)) with ⟨h1, h2⟩ | ⟨v, b, h1, h2, h3⟩
    · rw [h1]
      exact k0 ((look_ok ok hpN).1 h2)
    · rw [h1]
      have hb := (look_ok ok hpN).2 b h2
      have hlen : b.length = 256 := by rw [hb]; exact PgC.len (ok.ok p hpN)
      obtain ⟨a, c, rfl, _, _⟩ := h3
      rw [hlen] at h1 ⊢
      refine k1 a c ?_
      have h := h.perm (show _ = pers (immM ds D) * (omap m ds * R) by ac_rfl)
      have h := h.pers_new (ψ := immS (.slice a 256 c) 256 ((cc p).bytes.map bv)) fun I hI => by
        rcases relM.look (k := (p : Int)) hI with ⟨g1, g2⟩ | ⟨v', b', g1, g2, g3⟩
        · rw [h1] at g1; cases g1
        · rw [h1] at g1; cases g1
          rw [h2] at g2; cases g2
          rw [hlen, hb] at g3
          exact g3
      have h3 : sat E w (chM (some m) N ct cc wn * (pers (immS (.slice a 256 c) 256 ((cc p).bytes.map bv)) * R)) := sat_chM.2 ⟨ds, D, ok, h.perm (by ac_rfl)⟩
      exact h3.perm (star_left_comm _ _ _)
theorem chM_ok {mo : Option Nat} {N : Nat} {ct cc : Nat → PgC} {wn : Nat} (h : sat E w (chM mo N ct cc wn * R)) {p : Nat} (hpN : p < N) : (cc p).Ok := by
  cases mo with
  | none => exact (sat_chM0.1 h).1.ok p hpN
  | some m => obtain ⟨ds, D, ok, h⟩ := sat_chM.1 h; exact ok.ok p hpN
theorem chg_ok {C : Cx} {c : Nat} {s : St} (h : sat E w (chg C c s * R)) {p : Nat} (hpN : p < C.N) : (s.cc p).Ok := chM_ok (sat_chg.1 h).drop.drop hpN
theorem chg_le {C : Cx} {c c' : Nat} {s : St} (h : sat E w (chg C c s * R)) (hc : c' ≤ c) : sat E w (chg C c' s * R) := by
  have h := (sat_chg.1 h).perm (show _ = pX C.A C.N C.ct 0 C.kk c * (pts C.cb (.cells (ccells C s).toArray 124 (0, 0)) * (pts C.tb (.cells (tcells C).toArray 73 (0, 0)) * (chM C.mo C.N C.ct s.cc s.w * R))) by ac_rfl)
  have h := pX_le h (Nat.le_refl _) (Nat.le_refl _) hc
  exact sat_chg.2 (h.perm (by ac_rfl))
/-- The bytes of a page: out of what was written, or out of the cache. -/
theorem bytes_of {C : Cx} {c : Nat} {s : St} {p : Nat} (hpN : p < C.N) {T : Value → World → Prop} (h : sat E w (chg C (c + 1) s * R))
    (k : ∀ a c2 w', sat E w' (pers (immS (.slice a 256 c2) 256 ((s.cc p).bytes.map bv)) * (chg C c s * R)) → T (.slice a 256 c2) w') :
    ldv prog (Instr.lookup 117 (.map C.mo) (.int .i64 p) true) w fun t_4 w =>
    pvv prog (Instr.extract t_4 0) w fun t_5 w =>
    pvv prog (Instr.extract t_4 1) w fun t_6 w =>
    jn (fun σ w => pop σ fun b_7 σ => fin σ <| T b_7 w) fun k_21 =>
    pvv prog (Op.unary .not t_6) w fun t_22 w =>
    cd t_22 (
      pv prog (oNil (.pointer (some ⟨C.cb, 0, none⟩))) w fun t_23 w =>
      pvv prog (Instr.fieldAt 124 t_23 1) w fun t_24 w =>
      ldv prog (Instr.loadAt 23 t_24) w fun t_25 w =>
      pv prog (oNil t_25) w fun t_26 w =>
      pvv prog (Instr.fieldAt 73 t_26 1) w fun t_27 w =>
      ldv prog (Instr.loadAt 55 t_27) w fun t_28 w =>
      Calls prog 26 #[t_28, .int .i64 p] w (Ret fun t_29 w =>
      pvv prog (Instr.extract t_29 0) w fun t_30 w =>
      pvv prog (Instr.extract t_29 1) w fun t_31 w =>
      k_21 [t_30] w)) <|
    k_21 [t_5] w := by
  have h0 := (sat_chg.1 h).perm (show _ = chM C.mo C.N C.ct s.cc s.w * (pts C.cb (.cells (ccells C s).toArray 124 (0, 0)) * (pts C.tb (.cells (tcells C).toArray 73 (0, 0)) * (pX C.A C.N C.ct 0 C.kk (c + 1) * R))) by ac_rfl)
  refine chM_look hpN h0 (fun hb => ?_) (fun a c2 h => ?_)
  · simp only [↓opsA, opsB, if_true, if_false, ↓reduceIte]
    refine jn_cut (fun σ w => ∃ a c2, σ = [.slice a 256 c2] ∧ sat E w (pers (immS (.slice a 256 c2) 256 ((s.cc p).bytes.map bv)) * (chg C c s * R))) ?_ ?_
    · intro kk hk
      try simp only [↓opsA, opsB, if_true, if_false, ↓reduceIte]
      refine ld_in (b := C.cb) (v := .pointer (some ⟨C.tb, 0, none⟩)) h0 rfl ?_
      try simp only [↓opsA, opsB, if_true, if_false, ↓reduceIte]
      refine ld_in (b := C.tb) (v := .pointer (some ⟨C.A.q, 0, none⟩)) h0 rfl ?_
      have h := h0.perm (show _ = pX C.A C.N C.ct 0 C.kk (c + 1) * (pts C.cb (.cells (ccells C s).toArray 124 (0, 0)) * (pts C.tb (.cells (tcells C).toArray 73 (0, 0)) * (chM C.mo C.N C.ct s.cc s.w * R))) by ac_rfl)
      refine XRead_spec h hpN fun v w h => ?_
      obtain ⟨a, c2, rfl, _, _, _⟩ := osl_shape h
      simp only [↓opsA, opsB, if_true, if_false, ↓reduceIte]
      have h := osl_freeze h
      rw [hb] at h
      refine hk _ _ ⟨a, c2, rfl, ?_⟩
      have h2 : sat E w (chg C c s * (pers (immS (.slice a 256 c2) 256 ((s.cc p).bytes.map bv)) * R)) := sat_chg.2 (h.perm (by ac_rfl))
      exact h2.perm (star_left_comm _ _ _)
    · rintro σ w ⟨a, c2, rfl, h⟩
      rw [pop_cons, fin_nil]
      exact k a c2 w h
  · simp only [↓opsA, opsB, if_true, if_false, ↓reduceIte]
    refine jn_cut (fun σ w => ∃ a c2, σ = [.slice a 256 c2] ∧ sat E w (pers (immS (.slice a 256 c2) 256 ((s.cc p).bytes.map bv)) * (chg C c s * R))) ?_ ?_
    · intro kk hk
      try simp only [↓opsA, opsB, if_true, if_false, ↓reduceIte]
      refine hk _ _ ⟨a, c2, rfl, ?_⟩
      have h2 : sat E w (chg C (c + 1) s * (pers (immS (.slice a 256 c2) 256 ((s.cc p).bytes.map bv)) * R)) := sat_chg.2 (h.perm (by ac_rfl))
      exact (chg_le h2 (Nat.le_succ c)).perm (star_left_comm _ _ _)
    · rintro σ w ⟨a, c2, rfl, h⟩
      rw [pop_cons, fin_nil]
      exact k a c2 w h
theorem readS_some {N : Nat} {s : St} {p : Nat} {n : Nd} (h : readS N s p = some n) : p < N ∧ s.cc p = .node n := by
  unfold readS at h
  split at h
  · rename_i hpN
    refine ⟨hpN, ?_⟩
    split at h
    · rename_i n' e
      cases h; exact e
    · cases h
  · cases h
theorem read_spec {C : Cx} {c : Nat} {s : St} {p : Nat} {n : Nd} (hr : readS C.N s p = some n) (h : sat E w (chg C (c + 1) s * R))
    (k : ∀ lv xs w', esv xs = n.l → NdOk n → sat E w' (osl 67 3 lv xs.length (elv xs) * (pers (evP xs) * (chg C c s * R))) → K (nv n.leaf lv) w') :
    Calls prog 52 #[.pointer (some ⟨C.cb, 0, none⟩), .int .i64 p] w (Ret K) := by
  obtain ⟨hpN, hcc⟩ := readS_some hr
  have ok : NdOk n := by have := chg_ok h hpN; rw [hcc] at this; exact this
  refine c52 ?_
  unfold B52
  refine alloc_sl h fun t0 w h => ?_
  have h : sat E w (chg C (c + 1) s * (pts t0 (.cells [Value.bool false, .slice none 0 0].toArray 63 (0, 0)) * R)) := h.perm (star_left_comm _ _ _)
  rw [o_nil, o_field]
  refine ld_in (b := C.cb) (v := .map C.mo) (sat_chg.1 h) rfl ?_
  refine bytes_of hpN h fun a c2 w h => ?_
  rw [hcc] at h
  have hrd : Rds (pers (immS (.slice a 256 c2) 256 ((PgC.node n).bytes.map bv)) * (chg C c s * (pts t0 (.cells [Value.bool false, .slice none 0 0].toArray 63 (0, 0)) * R))) (.slice a 256 c2) 256 ((pad n.raw).map bv) := Rds.pers.left
  refine parsed_spec h hrd ok fun lv xs w hxs hev h => ?_
  obtain ⟨al, cl, rfl, _, _, _⟩ := osl_shape h
  have hxl : xs.length = n.l.length := by rw [← hxs]; simp [esv]
  simp only [nv, ↓opsA, opsB, if_true, if_false, ↓reduceIte]
  refine alloc_sl h fun n1 w h => ?_
  have h : sat E w (pts n1 (.cells [Value.bool false, .slice none 0 0].toArray 63 (0, 0)) * _) := h
  refine store_all (b := n1) h (vs := [Value.bool n.leaf, .slice al xs.length cl]) rfl rfl (by simp [Value.oneCell']) fun w h => ?_
  unfold jn
  simp only [↓opsA, opsB, if_true, if_false, ↓reduceIte]
  refine ld_agg (b := n1) h rfl ?_
  have h := h.drop
  have h := h.own t0
  refine res_all (b := t0) h (vs := [Value.bool n.leaf, .slice al xs.length cl]) rfl rfl (by simp [Value.oneCell']) fun w h => ?_
  have h := h.drop
  refine k _ xs w hxs ok ?_
  have h := h.perm (show _ = pers (immS (.slice a 256 c2) 256 ((PgC.node n).bytes.map bv)) * (osl 67 3 (.slice al xs.length cl) xs.length (elv xs) * (chg C c s * R)) by ac_rfl)
  have h := h.pers_mono (ψ := evP xs) fun I hI => hev I hI
  exact h.perm (star_left_comm _ _ _)
end Go.Proofs.YtfaeklinhchidaaGreat

/-
  A page is taken, is given back; what is written into a change.
-/
set_option linter.all false
set_option maxRecDepth 100000
namespace Go.Proofs.YtfaeklinhchidaaGreat
open Go Hold
variable {E : World0} {w : World} {H R X : HP} {K : Value → World → Prop}
theorem byte_at {b o c : Nat} {l : Bs} {H : HP} (hv : Rds H (.slice (some ⟨b, o, none⟩) 256 c) 256 (l.map bv)) (h : sat E w H) {j : Nat} {x : UInt8} (hj : l[j]? = some x) : w.cell? ⟨b, o + j, none⟩ = some (bv x) :=
  hv.cell h (j := j) rfl (by rw [List.getElem?_map, hj]; rfl)
theorem take_spec {C : Cx} {c : Nat} {s s' : St} {p : Nat} (hr : takeS C.N s = some (p, s')) (h : sat E w (chg C (c + 1) s * R))
    (k : ∀ w', sat E w' (chg C c s' * R) → K (.int .i64 p) w') : Calls prog 49 #[.pointer (some ⟨C.cb, 0, none⟩)] w (Ret K) := by
  have hN := C.le
  refine c49 ?_
  unfold B49
  rw [o_nil, o_field, o_field]
  refine ld_in (b := C.cb) (v := .int .i64 s.free) (sat_chg.1 h) rfl ?_
  rw [o_neInt]
  unfold takeS at hr
  by_cases hf : s.free = 0
  · rw [if_neg (by simpa using hf)] at hr
    have hf2 : (s.free : Int) = 0 := by omega
    simp only [hf2, decide_true, Bool.not_true, cd_false]
    split at hr
    · rename_i hfr
      cases hr
      refine jn_cut (fun σ w => σ = [] ∧ sat E w (chg C (c + 1) s * R)) ?_ ?_
      · intro kk hk
        refine dr_sl h fun w h _ => ?_
        simp only [↓opsA, opsB, if_true, if_false, ↓reduceIte]
        refine ld_in (b := C.cb) (v := .int .i64 s.fresh) (sat_chg.1 h) rfl ?_
        refine ld_in (b := C.cb) (v := .pointer (some ⟨C.tb, 0, none⟩)) (sat_chg.1 h) rfl ?_
        simp only [↓opsA, opsB, if_true, if_false, ↓reduceIte]
        refine ld_in (b := C.tb) (v := .pointer (some ⟨C.A.q, 0, none⟩)) (sat_chg.1 h) rfl ?_
        have hq := (sat_chg.1 h).perm (show _ = pX C.A C.N C.ct 0 C.kk (c + 1) * (pts C.cb (.cells (ccells C s).toArray 124 (0, 0)) * (pts C.tb (.cells (tcells C).toArray 73 (0, 0)) * (chM C.mo C.N C.ct s.cc s.w * R))) by ac_rfl)
        refine XLog_spec hq ?_
        refine st_in (b := C.cb) (xs := ccells C s) hq rfl ?_
        refine st_in (b := C.cb) (xs := ccells C s) hq rfl ?_
        refine XPages_spec hq fun w hq => ?_
        have h : sat E w (chg C (c + 1) s * R) := sat_chg.2 (hq.perm (by ac_rfl))
        refine st_in (b := C.tb) (xs := tcells C) (sat_chg.1 h) rfl ?_
        refine st_in (b := C.cb) (xs := ccells C s) (sat_chg.1 h) rfl ?_
        refine st_in (b := C.cb) (xs := ccells C s) (sat_chg.1 h) rfl ?_
        have h1 : ¬ (C.N : Int) ≤ (s.fresh : Int) := by omega
        simp only [h1, ↓opsA, opsB, if_true, if_false, ↓reduceIte]
        exact hk _ _ ⟨rfl, h⟩
      · clear h
        rintro σ w ⟨rfl, h⟩
        rw [fin_nil]
        simp only [↓opsA, opsB, if_true, if_false, ↓reduceIte]
        refine ld_in (b := C.cb) (v := .int .i64 s.fresh) (sat_chg.1 h) rfl ?_
        simp only [↓opsA, opsB, if_true, if_false, ↓reduceIte]
        rw [i64_of (by omega) (by omega)]
        have h : sat E w (pts C.cb (.cells [Value.int .i64 s.root, .int .i64 s.free, .int .i64 s.fresh, .pointer (some ⟨C.tb, 0, none⟩), .map C.mo].toArray 124 (0, 0)) * _) := sat_chg.1 h
        refine store_at (b := C.cb) h rfl (by simp) fun w h => ?_
        try simp only [↓opsA, opsB, if_true, if_false, ↓reduceIte]
        refine ld_at (b := C.cb) h ?_
        try simp only [↓opsA, opsB, if_true, if_false, ↓reduceIte]
        rw [Int.add_sub_cancel, i64_of (by omega) (by omega)]
        have h : sat E w (chg C (c + 1) { s with fresh := s.fresh + 1 } * R) := sat_chg.2 h
        exact k w (chg_le h (Nat.le_succ c))
    · cases hr
  · rw [if_pos (by simpa using hf)] at hr
    have hf2 : ¬ (s.free : Int) = 0 := by omega
    simp only [hf2, decide_false, Bool.not_false, cd_true]
    split at hr
    · rename_i hfN
      split at hr
      · rename_i nx hcc
        cases hr
        have hnx : nx < 65536 := by have := chg_ok h hfN; rw [hcc] at this; exact this
        rw [o_nil, o_field, o_field]
        refine ld_in (b := C.cb) (v := .int .i64 s.free) (sat_chg.1 h) rfl ?_
        rw [o_nil, o_field]
        refine ld_in (b := C.cb) (v := .map C.mo) (sat_chg.1 h) rfl ?_
        refine bytes_of hfN h fun a c2 w h => ?_
        rw [hcc] at h
        have hrd : Rds (pers (immS (.slice a 256 c2) 256 ((PgC.free nx).bytes.map bv)) * (chg C c s * R)) (.slice a 256 c2) 256 ((PgC.free nx).bytes.map bv) := Rds.pers.left
        obtain ⟨a', c', e', hc, _, _⟩ := hrd.shape h
        cases e'
        obtain ⟨b, o, hab, _⟩ := win_cell (hrd.win h) (j := 0) (by rw [List.length_map, PgC.len (x := .free nx) hnx]; omega)
        subst hab
        refine dr_sl h fun w h _ => ?_
        rw [o_index (by omega) (by omega)]
        try simp only [↓opsA, opsB, if_true, if_false, ↓reduceIte]
        rw [o_index (by omega) (by omega)]
        simp only [↓opsA, opsB, if_true, if_false, ↓reduceIte, show (1 : Int).toNat * 1 = 1 from rfl, show (2 : Int).toNat * 1 = 2 from rfl]
        refine ld_cell (v := bv (hi8 nx)) (byte_at hrd h (j := 1) rfl) ?_
        have := (hi8 nx).toNat_lt
        have := (lo8 nx).toNat_lt
        unfold bv
        simp only [↓opsA, opsB, if_true, if_false, ↓reduceIte]
        rw [i64_of (n := ((hi8 nx).toNat : Int)) (by omega) (by omega), shl16]
        refine ld_cell (v := bv (lo8 nx)) (byte_at hrd h (j := 2) rfl) ?_
        unfold bv
        simp only [↓opsA, opsB, if_true, if_false, ↓reduceIte]
        rw [i64_of (n := ((lo8 nx).toNat : Int)) (by omega) (by omega), two16 hnx]
        have h := h.drop
        have h : sat E w (pts C.cb (.cells [Value.int .i64 s.root, .int .i64 s.free, .int .i64 s.fresh, .pointer (some ⟨C.tb, 0, none⟩), .map C.mo].toArray 124 (0, 0)) * _) := sat_chg.1 h
        refine store_at (b := C.cb) h rfl (by simp) fun w h => ?_
        have h : sat E w (chg C c { s with free := nx } * R) := sat_chg.2 h
        exact k w h
      · cases hr
    · cases hr
/-- A page is put into what a change writes. -/
theorem put_sl {m N : Nat} {ct cc : Nat → PgC} {wn p : Nat} {y : PgC} {v : Value} (hpN : p < N) (hy : y.Ok) (h : sat E w (pers (immS v 256 (y.bytes.map bv)) * (chM (some m) N ct cc wn * R)))
    (k : ∀ w', sat E w' (chM (some m) N ct (upd cc p y) (wn + 1) * R) → K undef w') : efu prog (Instr.mapUpdate 117 (.map (some m)) (.int .i64 p) v) w K := by
  have h1 := h.perm (show _ = chM (some m) N ct cc wn * (pers (immS v 256 (y.bytes.map bv)) * R) by ac_rfl)
  obtain ⟨ds, D, ok, h⟩ := sat_chM.1 h1
  refine update_sl (b := m) h fun w h => k w (sat_chM.2 ⟨putM ds p v, putB D p y.bytes, ok.put hpN hy, ?_⟩)
  have h := sat_imp2 h (immM ds D) (immS v 256 (y.bytes.map bv)) (χ := immM (putM ds p v) (putB D p y.bytes)) fun I h1 h2 => by
    refine relM.put ?_ h1
    rw [PgC.len hy]; exact h2
  exact h.perm (by ac_rfl)
theorem putS_some {N : Nat} {s s' : St} {p : Nat} {y : PgC} (h : putS N s p y = some s') : p < N ∧ y.Ok ∧ s' = { s with w := s.w + 1, cc := upd s.cc p y } := by
  unfold putS at h
  split at h
  · rename_i h1
    cases h
    exact ⟨h1.1, h1.2, rfl⟩
  · cases h
theorem chg_put {C : Cx} {c m : Nat} {s s' : St} {p : Nat} {y : PgC} {v : Value} (hm : C.mo = some m) (hr : putS C.N s p y = some s') (h : sat E w (pers (immS v 256 (y.bytes.map bv)) * (chg C c s * R)))
    (k : ∀ w', sat E w' (chg C c s' * R) → K undef w') : efu prog (Instr.mapUpdate 117 (.map C.mo) (.int .i64 p) v) w K := by
  obtain ⟨h1, h2, rfl⟩ := putS_some hr
  have h := sat_chg.1 (h.perm (star_left_comm _ _ _))
  rw [hm] at h ⊢
  have h := h.perm (show _ = pers (immS v 256 (y.bytes.map bv)) * (chM (some m) C.N C.ct s.cc s.w * (pts C.cb (.cells (ccells C s).toArray 124 (0, 0)) * (pts C.tb (.cells (tcells C).toArray 73 (0, 0)) * (pX C.A C.N C.ct 0 C.kk c * R)))) by ac_rfl)
  refine put_sl h1 h2 h fun w h => k w (sat_chg.2 ?_)
  rw [hm]
  exact h.perm (show _ = pts C.cb (.cells (ccells C s).toArray 124 (0, 0)) * (pts C.tb (.cells (tcells C).toArray 73 (0, 0)) * (chM (some m) C.N C.ct (upd s.cc p y) (s.w + 1) * (pX C.A C.N C.ct 0 C.kk c * R))) by ac_rfl)
/-- A block of 256 bytes is let stay. -/
theorem row_stay {b : Nat} {l : Bs} (hl : l.length = 256) (h : sat E w (pts b (.cells (l.map bv).toArray 5 (0, 0)) * R)) : sat E w (pers (immS (.slice (some ⟨b, 0, none⟩) 256 256) 256 (l.map bv)) * R) :=
  osl_freeze (e := 5) (sz := 1) (osl_of h (by rw [List.length_map, hl]) (by omega))
theorem give_spec {C : Cx} {c m : Nat} {s s' : St} {p : Nat} (hm : C.mo = some m) (hr : giveS C.N s p = some s') (h : sat E w (chg C c s * R)) (hfr : s.free < 65536)
    (k : ∀ w', sat E w' (chg C c s' * R) → K (.tuple #[]) w') : Calls prog 53 #[.pointer (some ⟨C.cb, 0, none⟩), .int .i64 p] w (Ret K) := by
  unfold giveS at hr
  obtain ⟨s1, hr1, hr2⟩ := Option.bind_eq_some_iff.1 hr
  cases hr2
  refine c53 ?_
  unfold B53
  refine make_sl h rfl (by omega) (by omega) (by omega) (by omega) fun b w h => ?_
  have h : sat E w (pts b (.cells (z8 :: z8 :: z8 :: List.replicate 253 z8).toArray 5 (0, 0)) * (chg C c s * R)) := h
  refine dr_sl h fun w h _ => ?_
  simp only [↓opsA, opsB, if_true, if_false, ↓reduceIte, show (256 : Int).toNat = 256 from rfl]
  have hc : ∀ {w : World} {o : Obj}, sat E w (pts b o * (chg C c s * R)) → sat E w (pts C.cb (.cells (ccells C s).toArray 124 (0, 0)) * (pts b o * (pts C.tb (.cells (tcells C).toArray 73 (0, 0)) * (chM C.mo C.N C.ct s.cc s.w * (pX C.A C.N C.ct 0 C.kk c * R))))) := fun h => by
    unfold chg at h
    exact h.perm (by ac_rfl)
  refine ld_in (b := C.cb) (v := .int .i64 s.free) (hc h) rfl ?_
  rw [o_shr8 (by omega)]
  try simp only [↓opsA, opsB, if_true, if_false, ↓reduceIte]
  refine ld_in (b := C.cb) (v := .int .i64 s.free) (hc h) rfl ?_
  try simp only [↓opsA, opsB, if_true, if_false, ↓reduceIte]
  rw [bv_lo, bv_lo]
  rw [o_index (by omega) (by omega)]
  simp only [↓opsA, opsB, if_true, if_false, ↓reduceIte, Int.toNat_zero, Nat.zero_mul]
  refine store_at (b := b) h rfl (by simp) fun w h => ?_
  rw [o_index (by omega) (by omega)]
  simp only [↓opsA, opsB, if_true, if_false, ↓reduceIte, show (1 : Int).toNat * 1 = 1 from rfl]
  refine store_at (b := b) h rfl (by simp) fun w h => ?_
  rw [o_index (by omega) (by omega)]
  simp only [↓opsA, opsB, if_true, if_false, ↓reduceIte, show (2 : Int).toNat * 1 = 2 from rfl]
  refine store_at (b := b) h rfl (by simp) fun w h => ?_
  refine ld_in (b := C.cb) (v := .map C.mo) (hc h) rfl ?_
  have e1 : (PgC.free s.free).bytes.map bv = .int .u8 70 :: bv (hi8 s.free) :: bv (lo8 s.free) :: List.replicate 253 z8 := by
    unfold PgC.bytes pad
    simp [z8, bv]
  have h : sat E w (pts b (.cells ((PgC.free s.free).bytes.map bv).toArray 5 (0, 0)) * (chg C c s * R)) := by rw [e1]; exact h
  have h := row_stay (PgC.len (x := .free s.free) hfr) h
  refine chg_put hm hr1 h fun w h => ?_
  obtain ⟨_, _, hs1⟩ := putS_some hr1
  have h : sat E w (pts C.cb (.cells [Value.int .i64 s1.root, .int .i64 s1.free, .int .i64 s1.fresh, .pointer (some ⟨C.tb, 0, none⟩), .map C.mo].toArray 124 (0, 0)) * _) := sat_chg.1 h
  try simp only [↓opsA, opsB, if_true, if_false, ↓reduceIte]
  refine store_at (b := C.cb) h rfl (by simp) fun w h => ?_
  exact k w (sat_chg.2 h)
end Go.Proofs.YtfaeklinhchidaaGreat
