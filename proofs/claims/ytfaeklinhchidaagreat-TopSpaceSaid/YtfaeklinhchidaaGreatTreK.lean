/-
  A page is taken, is given back; what is written into a change.
-/
import Derived.Test.YtfaeklinhchidaaGreatTreV
import Derived.Test.YtfaeklinhchidaaGreatIns
set_option linter.all false
set_option maxRecDepth 100000
namespace Go.Proofs.YtfaeklinhchidaaGreat
open Go Hold
variable {E : World0} {w : World} {H R X : HP} {K : Value → World → Prop}
theorem byte_at {b o c : Nat} {l : Bs} {H : HP} (hv : Rds H (.slice (some ⟨b, o, none⟩) 256 c) 256 (l.map bv)) (h : sat E w H) {j : Nat} {x : UInt8} (hj : l[j]? = some x) : w.cell? ⟨b, o + j, none⟩ = some (bv x) :=
  hv.cell h (j := j) rfl (by rw [List.getElem?_map, hj]; rfl)
theorem take_spec {C : Cx} {c : Nat} {s s' : St} {p : Nat} (hr : takeS C.N s = some (p, s')) (h : sat E w (chg C (c + 1) s * R))
    (k : ∀ w', sat E w' (chg C c s' * R) → K (.int .i64 p) w') : Calls prog 49 #[.pointer (some ⟨C.cb, 0, none⟩)] w (Ret K) := by
  have hN := C.le
  refine c49 ?_
  unfold B49
  rw [o_nil, o_field, o_field]
  refine ld_in (b := C.cb) (v := .int .i64 s.free) (sat_chg.1 h) rfl ?_
  rw [o_neInt]
  unfold takeS at hr
  by_cases hf : s.free = 0
  · rw [if_neg (by simpa using hf)] at hr
    have hf2 : (s.free : Int) = 0 := by omega
    simp only [hf2, decide_true, Bool.not_true, cd_false]
    split at hr
    · rename_i hfr
      cases hr
      refine jn_cut (fun σ w => σ = [] ∧ sat E w (chg C (c + 1) s * R)) ?_ ?_
      · intro kk hk
        refine dr_sl h fun w h _ => ?_
        simp only [↓opsA, opsB, if_true, if_false, ↓reduceIte]
        refine ld_in (b := C.cb) (v := .int .i64 s.fresh) (sat_chg.1 h) rfl ?_
        refine ld_in (b := C.cb) (v := .pointer (some ⟨C.tb, 0, none⟩)) (sat_chg.1 h) rfl ?_
        simp only [↓opsA, opsB, if_true, if_false, ↓reduceIte]
        refine ld_in (b := C.tb) (v := .pointer (some ⟨C.A.q, 0, none⟩)) (sat_chg.1 h) rfl ?_
        have hq := (sat_chg.1 h).perm (show _ = pX C.A C.N C.ct 0 C.kk (c + 1) * (pts C.cb (.cells (ccells C s).toArray 124 (0, 0)) * (pts C.tb (.cells (tcells C).toArray 73 (0, 0)) * (chM C.mo C.N C.ct s.cc s.w * R))) by ac_rfl)
        refine XLog_spec hq ?_
        refine st_in (b := C.cb) (xs := ccells C s) hq rfl ?_
        refine st_in (b := C.cb) (xs := ccells C s) hq rfl ?_
        refine XPages_spec hq fun w hq => ?_
        have h : sat E w (chg C (c + 1) s * R) := sat_chg.2 (hq.perm (by ac_rfl))
        refine st_in (b := C.tb) (xs := tcells C) (sat_chg.1 h) rfl ?_
        refine st_in (b := C.cb) (xs := ccells C s) (sat_chg.1 h) rfl ?_
        refine st_in (b := C.cb) (xs := ccells C s) (sat_chg.1 h) rfl ?_
        have h1 : ¬ (C.N : Int) ≤ (s.fresh : Int) := by omega
        simp only [h1, ↓opsA, opsB, if_true, if_false, ↓reduceIte]
        exact hk _ _ ⟨rfl, h⟩
      · clear h
        rintro σ w ⟨rfl, h⟩
        rw [fin_nil]
        simp only [↓opsA, opsB, if_true, if_false, ↓reduceIte]
        refine ld_in (b := C.cb) (v := .int .i64 s.fresh) (sat_chg.1 h) rfl ?_
        simp only [↓opsA, opsB, if_true, if_false, ↓reduceIte]
        rw [i64_of (by omega) (by omega)]
        have h : sat E w (pts C.cb (.cells [Value.int .i64 s.root, .int .i64 s.free, .int .i64 s.fresh, .pointer (some ⟨C.tb, 0, none⟩), .map C.mo].toArray 124 (0, 0)) * _) := sat_chg.1 h
        refine store_at (b := C.cb) h rfl (by simp) fun w h => ?_
        try simp only [↓opsA, opsB, if_true, if_false, ↓reduceIte]
        refine ld_at (b := C.cb) h ?_
        try simp only [↓opsA, opsB, if_true, if_false, ↓reduceIte]
        rw [Int.add_sub_cancel, i64_of (by omega) (by omega)]
        have h : sat E w (chg C (c + 1) { s with fresh := s.fresh + 1 } * R) := sat_chg.2 h
        exact k w (chg_le h (Nat.le_succ c))
    · cases hr
  · rw [if_pos (by simpa using hf)] at hr
    have hf2 : ¬ (s.free : Int) = 0 := by omega
    simp only [hf2, decide_false, Bool.not_false, cd_true]
    split at hr
    · rename_i hfN
      split at hr
      · rename_i nx hcc
        cases hr
        have hnx : nx < 65536 := by have := chg_ok h hfN; rw [hcc] at this; exact this
        rw [o_nil, o_field, o_field]
        refine ld_in (b := C.cb) (v := .int .i64 s.free) (sat_chg.1 h) rfl ?_
        rw [o_nil, o_field]
        refine ld_in (b := C.cb) (v := .map C.mo) (sat_chg.1 h) rfl ?_
        refine bytes_of hfN h fun a c2 w h => ?_
        rw [hcc] at h
        have hrd : Rds (pers (immS (.slice a 256 c2) 256 ((PgC.free nx).bytes.map bv)) * (chg C c s * R)) (.slice a 256 c2) 256 ((PgC.free nx).bytes.map bv) := Rds.pers.left
        obtain ⟨a', c', e', hc, _, _⟩ := hrd.shape h
        cases e'
        obtain ⟨b, o, hab, _⟩ := win_cell (hrd.win h) (j := 0) (by rw [List.length_map, PgC.len (x := .free nx) hnx]; omega)
        subst hab
        refine dr_sl h fun w h _ => ?_
        rw [o_index (by omega) (by omega)]
        try simp only [↓opsA, opsB, if_true, if_false, ↓reduceIte]
        rw [o_index (by omega) (by omega)]
        simp only [↓opsA, opsB, if_true, if_false, ↓reduceIte, show (1 : Int).toNat * 1 = 1 from rfl, show (2 : Int).toNat * 1 = 2 from rfl]
        refine ld_cell (v := bv (hi8 nx)) (byte_at hrd h (j := 1) rfl) ?_
        have := (hi8 nx).toNat_lt
        have := (lo8 nx).toNat_lt
        unfold bv
        simp only [↓opsA, opsB, if_true, if_false, ↓reduceIte]
        rw [i64_of (n := ((hi8 nx).toNat : Int)) (by omega) (by omega), shl16]
        refine ld_cell (v := bv (lo8 nx)) (byte_at hrd h (j := 2) rfl) ?_
        unfold bv
        simp only [↓opsA, opsB, if_true, if_false, ↓reduceIte]
        rw [i64_of (n := ((lo8 nx).toNat : Int)) (by omega) (by omega), two16 hnx]
        have h := h.drop
        have h : sat E w (pts C.cb (.cells [Value.int .i64 s.root, .int .i64 s.free, .int .i64 s.fresh, .pointer (some ⟨C.tb, 0, none⟩), .map C.mo].toArray 124 (0, 0)) * _) := sat_chg.1 h
        refine store_at (b := C.cb) h rfl (by simp) fun w h => ?_
        have h : sat E w (chg C c { s with free := nx } * R) := sat_chg.2 h
        exact k w h
      · cases hr
    · cases hr
/-- A page is put into what a change writes. -/
theorem put_sl {m N : Nat} {ct cc : Nat → PgC} {wn p : Nat} {y : PgC} {v : Value} (hpN : p < N) (hy : y.Ok) (h : sat E w (pers (immS v 256 (y.bytes.map bv)) * (chM (some m) N ct cc wn * R)))
    (k : ∀ w', sat E w' (chM (some m) N ct (upd cc p y) (wn + 1) * R) → K undef w') : efu prog (Instr.mapUpdate 117 (.map (some m)) (.int .i64 p) v) w K := by
  have h1 := h.perm (show _ = chM (some m) N ct cc wn * (pers (immS v 256 (y.bytes.map bv)) * R) by ac_rfl)
  obtain ⟨ds, D, ok, h⟩ := sat_chM.1 h1
  refine update_sl (b := m) h fun w h => k w (sat_chM.2 ⟨putM ds p v, putB D p y.bytes, ok.put hpN hy, ?_⟩)
  have h := sat_imp2 h (immM ds D) (immS v 256 (y.bytes.map bv)) (χ := immM (putM ds p v) (putB D p y.bytes)) fun I h1 h2 => by
    refine relM.put ?_ h1
    rw [PgC.len hy]; exact h2
  exact h.perm (by ac_rfl)
theorem putS_some {N : Nat} {s s' : St} {p : Nat} {y : PgC} (h : putS N s p y = some s') : p < N ∧ y.Ok ∧ s' = { s with w := s.w + 1, cc := upd s.cc p y } := by
  unfold putS at h
  split at h
  · rename_i h1
    cases h
    exact ⟨h1.1, h1.2, rfl⟩
  · cases h
theorem chg_put {C : Cx} {c m : Nat} {s s' : St} {p : Nat} {y : PgC} {v : Value} (hm : C.mo = some m) (hr : putS C.N s p y = some s') (h : sat E w (pers (immS v 256 (y.bytes.map bv)) * (chg C c s * R)))
    (k : ∀ w', sat E w' (chg C c s' * R) → K undef w') : efu prog (Instr.mapUpdate 117 (.map C.mo) (.int .i64 p) v) w K := by
  obtain ⟨h1, h2, rfl⟩ := putS_some hr
  have h := sat_chg.1 (h.perm (star_left_comm _ _ _))
  rw [hm] at h ⊢
  have h := h.perm (show _ = pers (immS v 256 (y.bytes.map bv)) * (chM (some m) C.N C.ct s.cc s.w * (pts C.cb (.cells (ccells C s).toArray 124 (0, 0)) * (pts C.tb (.cells (tcells C).toArray 73 (0, 0)) * (pX C.A C.N C.ct 0 C.kk c * R)))) by ac_rfl)
  refine put_sl h1 h2 h fun w h => k w (sat_chg.2 ?_)
  rw [hm]
  exact h.perm (show _ = pts C.cb (.cells (ccells C s).toArray 124 (0, 0)) * (pts C.tb (.cells (tcells C).toArray 73 (0, 0)) * (chM (some m) C.N C.ct (upd s.cc p y) (s.w + 1) * (pX C.A C.N C.ct 0 C.kk c * R))) by ac_rfl)
/-- A block of 256 bytes is let stay. -/
theorem row_stay {b : Nat} {l : Bs} (hl : l.length = 256) (h : sat E w (pts b (.cells (l.map bv).toArray 5 (0, 0)) * R)) : sat E w (pers (immS (.slice (some ⟨b, 0, none⟩) 256 256) 256 (l.map bv)) * R) :=
  osl_freeze (e := 5) (sz := 1) (osl_of h (by rw [List.length_map, hl]) (by omega))
theorem give_spec {C : Cx} {c m : Nat} {s s' : St} {p : Nat} (hm : C.mo = some m) (hr : giveS C.N s p = some s') (h : sat E w (chg C c s * R)) (hfr : s.free < 65536)
    (k : ∀ w', sat E w' (chg C c s' * R) → K (.tuple #[]) w') : Calls prog 53 #[.pointer (some ⟨C.cb, 0, none⟩), .int .i64 p] w (Ret K) := by
  unfold giveS at hr
  obtain ⟨s1, hr1, hr2⟩ := Option.bind_eq_some_iff.1 hr
  cases hr2
  refine c53 ?_
  unfold B53
  refine make_sl h rfl (by omega) (by omega) (by omega) (by omega) fun b w h => ?_
  have h : sat E w (pts b (.cells (z8 :: z8 :: z8 :: List.replicate 253 z8).toArray 5 (0, 0)) * (chg C c s * R)) := h
  refine dr_sl h fun w h _ => ?_
  simp only [↓opsA, opsB, if_true, if_false, ↓reduceIte, show (256 : Int).toNat = 256 from rfl]
  have hc : ∀ {w : World} {o : Obj}, sat E w (pts b o * (chg C c s * R)) → sat E w (pts C.cb (.cells (ccells C s).toArray 124 (0, 0)) * (pts b o * (pts C.tb (.cells (tcells C).toArray 73 (0, 0)) * (chM C.mo C.N C.ct s.cc s.w * (pX C.A C.N C.ct 0 C.kk c * R))))) := fun h => by
    unfold chg at h
    exact h.perm (by ac_rfl)
  refine ld_in (b := C.cb) (v := .int .i64 s.free) (hc h) rfl ?_
  rw [o_shr8 (by omega)]
  try simp only [↓opsA, opsB, if_true, if_false, ↓reduceIte]
  refine ld_in (b := C.cb) (v := .int .i64 s.free) (hc h) rfl ?_
  try simp only [↓opsA, opsB, if_true, if_false, ↓reduceIte]
  rw [bv_lo, bv_lo]
  rw [o_index (by omega) (by omega)]
  simp only [↓opsA, opsB, if_true, if_false, ↓reduceIte, Int.toNat_zero, Nat.zero_mul]
  refine store_at (b := b) h rfl (by simp) fun w h => ?_
  rw [o_index (by omega) (by omega)]
  simp only [↓opsA, opsB, if_true, if_false, ↓reduceIte, show (1 : Int).toNat * 1 = 1 from rfl]
  refine store_at (b := b) h rfl (by simp) fun w h => ?_
  rw [o_index (by omega) (by omega)]
  simp only [↓opsA, opsB, if_true, if_false, ↓reduceIte, show (2 : Int).toNat * 1 = 2 from rfl]
  refine store_at (b := b) h rfl (by simp) fun w h => ?_
  refine ld_in (b := C.cb) (v := .map C.mo) (hc h) rfl ?_
  have e1 : (PgC.free s.free).bytes.map bv = .int .u8 70 :: bv (hi8 s.free) :: bv (lo8 s.free) :: List.replicate 253 z8 := by
    unfold PgC.bytes pad
    simp [z8, bv]
  have h : sat E w (pts b (.cells ((PgC.free s.free).bytes.map bv).toArray 5 (0, 0)) * (chg C c s * R)) := by rw [e1]; exact h
  have h := row_stay (PgC.len (x := .free s.free) hfr) h
  refine chg_put hm hr1 h fun w h => ?_
  obtain ⟨_, _, hs1⟩ := putS_some hr1
  have h : sat E w (pts C.cb (.cells [Value.int .i64 s1.root, .int .i64 s1.free, .int .i64 s1.fresh, .pointer (some ⟨C.tb, 0, none⟩), .map C.mo].toArray 124 (0, 0)) * _) := sat_chg.1 h
  try simp only [↓opsA, opsB, if_true, if_false, ↓reduceIte]
  refine store_at (b := C.cb) h rfl (by simp) fun w h => ?_
  exact k w (sat_chg.2 h)
end Go.Proofs.YtfaeklinhchidaaGreat

/-
  Where too many entries are cut.
-/
set_option linter.all false
set_option maxRecDepth 100000
namespace Go.Proofs.YtfaeklinhchidaaGreat
open Go Hold
variable {E : World0} {w : World} {H R X : HP} {K : Value → World → Prop}
theorem rds_takeE {H : HP} {a : Option Addr} {n c c' : Nat} {xs : List Ev} {i : Nat} (h : Rds H (.slice a n c) n (elv xs)) (hi : i ≤ c') : Rds H (.slice a i c') i (elv (xs.take i)) := fun E w hs => by
  obtain ⟨a', c2, e, hc, hw⟩ := h E w hs
  cases e
  refine ⟨_, _, rfl, hi, ?_⟩
  have := win_take hw (i * 3)
  rcases hw with h0 | ⟨b, o, cs, e, fr, rfl, hb, hv⟩
  · left
    have hl := congrArg List.length h0
    rw [elv_len] at hl
    have : xs = [] := List.eq_nil_of_length_eq_zero (by simp at hl; omega)
    subst this; simp [elv]
  · refine .inr ⟨b, o, cs, e, fr, rfl, hb, fun j v hj => hv j v ?_⟩
    have e1 : elv xs = elv (xs.take i) ++ elv (xs.drop i) := by rw [← elv_app, List.take_append_drop]
    have hlt := (List.getElem?_eq_some_iff.1 hj).1
    rw [e1, List.getElem?_append_left hlt]; exact hj
theorem rds_dropE {H : HP} {b o n c c' l : Nat} {xs : List Ev} {i : Nat} (h : Rds H (.slice (some ⟨b, o, none⟩) n c) n (elv xs)) (hl : l = (xs.drop i).length) (hi : l ≤ c') (hx : i ≤ xs.length) : Rds H (.slice (some ⟨b, o + i * 3, none⟩) l c') l (elv (xs.drop i)) := fun E w hs => by
  obtain ⟨a', c2, e, hc, hw⟩ := h E w hs
  cases e
  refine ⟨_, _, rfl, hi, ?_⟩
  rcases hw with h0 | ⟨b, o, cs, e, fr, hab, hb, hv⟩
  · left
    have hl := congrArg List.length h0
    rw [elv_len] at hl
    have : xs = [] := List.eq_nil_of_length_eq_zero (by simp at hl; omega)
    subst this; simp [elv]
  · cases hab
    refine .inr ⟨_, _, cs, e, fr, rfl, hb, fun j v hj => ?_⟩
    have e1 : elv xs = elv (xs.take i) ++ elv (xs.drop i) := by rw [← elv_app, List.take_append_drop]
    have := hv (i * 3 + j) v (by
      rw [e1, List.getElem?_append_right (by rw [elv_len, List.length_take]; omega), elv_len, List.length_take, show min i xs.length = i by omega, Nat.add_sub_cancel_left]
      exact hj)
    rwa [← Nat.add_assoc] at this
theorem esv_take (xs : List Ev) (i : Nat) : esv (xs.take i) = (esv xs).take i := by unfold esv; rw [List.map_take]
theorem esv_drop (xs : List Ev) (i : Nat) : esv (xs.drop i) = (esv xs).drop i := by unfold esv; rw [List.map_drop]
theorem esv_len (xs : List Ev) : (esv xs).length = xs.length := by simp [esv]
theorem esv_at (xs : List Ev) {i : Nat} (h : i < xs.length) : (esv xs)[i]'(by rw [esv_len]; exact h) = xs[i].e := List.getElem_map (fun x : Ev => x.e)
theorem half_spec (h : sat E w H) {leaf : Bool} {lv : Value} {xs : List Ev} (hl : Rds H lv xs.length (elv xs)) (hf : Few xs) (h1 : 1 ≤ xs.length) (k : ∀ w', sat E w' H → K (.int .i64 (halfP ⟨leaf, esv xs⟩)) w') :
    Calls prog 118 #[nv leaf lv] w (Ret K) := by
  obtain ⟨a, c, rfl, hc, hl, _⟩ := hl.shape h
  have hf1 := hf.1
  refine c118 ?_
  unfold B118
  refine box_sl h fun n0 w h => ?_
  have h : sat E w (pts n0 (.cells [Value.bool leaf, .slice a xs.length c].toArray 63 (0, 0)) * H) := h
  refine ld_agg (b := n0) h rfl ?_
  refine bytes_spec h hl.right hf fun w h => ?_
  try simp only [↓opsA, opsB, if_true, if_false, ↓reduceIte]
  refine ld_in (b := n0) (v := .slice a xs.length c) h rfl ?_
  refine ld_in (b := n0) (v := .slice a xs.length c) h rfl ?_
  try simp only [↓opsA, opsB, if_true, if_false, ↓reduceIte]
  rw [i64_of (n := (xs.length : Int) - 1) (by omega) (by omega), show (xs.length : Int) - 1 = ((xs.length - 1 : Nat) : Int) by omega, o_slice_h (by omega) (by omega), cutA_no]
  simp only [Int.toNat_natCast]
  try simp only [↓opsA, opsB, if_true, if_false, ↓reduceIte]
  have hbl := bytes_le hf leaf
  have hdl : (esv xs).dropLast.length = xs.length - 1 := by rw [List.length_dropLast, esv_len]
  refine lp_nat (fun q σ w => ∃ i s best at_ : Nat, σ = [.int .i64 s, .int .i64 best, .int .i64 at_, .int .i64 i] ∧ q = xs.length - 1 - i ∧ i ≤ xs.length - 1 ∧ s = (((esv xs).take i).map (⟨leaf, esv xs⟩ : Nd).one).sum ∧
    halfGo (⟨leaf, esv xs⟩ : Nd).bytes (⟨leaf, esv xs⟩ : Nd).one ((esv xs).dropLast.drop i) i s best at_ = halfP ⟨leaf, esv xs⟩ ∧
    sat E w (pts n0 (.cells [Value.bool leaf, .slice a xs.length c].toArray 63 (0, 0)) * H)) (xs.length - 1) ⟨0, 0, 506, 1, rfl, rfl, by omega, rfl, rfl, h⟩ ?_
  clear h
  rintro q σ w again ⟨i, s, best, at_, rfl, rfl, hi, hs, hgo, h⟩ hag
  try simp only [↓opsA, opsB, if_true, if_false, ↓reduceIte]
  refine cd_dec (fun hlt => ?_) (fun hge => ?_)
  · have hlt : i < xs.length - 1 := by omega
    have hlt2 : i < xs.length := by omega
    have e1 := sum_take (f := (⟨leaf, esv xs⟩ : Nd).one) (l := esv xs) (i := i) (by rw [esv_len]; omega)
    have e2 : (((esv xs).take (i + 1)).map (⟨leaf, esv xs⟩ : Nd).one).sum ≤ (⟨leaf, esv xs⟩ : Nd).bytes := sum_part ⟨leaf, esv xs⟩ (i := i + 1)
    rw [esv_at xs hlt2] at e1
    have hd : (esv xs).dropLast.drop i = xs[i].e :: (esv xs).dropLast.drop (i + 1) := by
      rw [List.drop_eq_getElem_cons (by rw [hdl]; omega), List.getElem_dropLast, esv_at xs hlt2]
    rw [hd, halfGo] at hgo
    obtain ⟨b, o, rfl, hld⟩ := ld_ev h.drop hl hlt2
    have hs1 : (((esv xs).take (i + 1)).map (⟨leaf, esv xs⟩ : Nd).one).sum = s + (⟨leaf, esv xs⟩ : Nd).one xs[i].e := by rw [e1, hs]
    rw [hs1] at e2
    refine jn_cut (fun σ w => ∃ best at_ : Nat, σ = [.int .i64 ((s + (⟨leaf, esv xs⟩ : Nd).one xs[i].e : Nat) : Int), .int .i64 best, .int .i64 at_] ∧
      halfGo (⟨leaf, esv xs⟩ : Nd).bytes (⟨leaf, esv xs⟩ : Nd).one ((esv xs).dropLast.drop (i + 1)) (i + 1) (s + (⟨leaf, esv xs⟩ : Nd).one xs[i].e) best at_ = halfP ⟨leaf, esv xs⟩ ∧
      sat E w (pts n0 (.cells [Value.bool leaf, .slice (some ⟨b, o, none⟩) xs.length c].toArray 63 (0, 0)) * H)) ?_ ?_
    · intro kk hk
      clear hag
      rw [o_index (by omega) (by omega)]
      simp only [Int.toNat_natCast]
      refine hld ?_
      refine alloc_sl h fun e0 w h => ?_
      have h : sat E w (pts e0 (.cells [Value.slice none 0 0, .slice none 0 0, .int .i64 0].toArray 67 (0, 0)) * (pts n0 (.cells [Value.bool leaf, .slice (some ⟨b, o, none⟩) xs.length c].toArray 63 (0, 0)) * H)) := h
      refine store_all (b := e0) h rfl rfl (by simp [ecells, Ev.kv, Ev.vv, Value.oneCell']) fun w h => ?_
      refine ld_agg (b := n0) h rfl ?_
      refine ld_agg (b := e0) h rfl ?_
      have hm := hf.2 xs[i] (List.getElem_mem _)
      refine size_spec (n := ⟨leaf, esv xs⟩) h rfl hm.1 hm.2 fun w h => ?_
      generalize (⟨leaf, esv xs⟩ : Nd).one xs[i].e = u at *
      generalize (⟨leaf, esv xs⟩ : Nd).bytes = all at *
      try simp only [↓opsA, opsB, if_true, if_false, ↓reduceIte]
      rw [i64_of (n := (s : Int) + u) (by omega) (by omega), i64_of (n := (all : Int) - (s + u)) (by omega) (by omega)]
      have em : max ((s : Int) + u) ((all : Int) - (s + u)) = ((max (s + u) (all - (s + u)) : Nat) : Int) := by omega
      rw [em]
      by_cases hlt3 : max (s + u) (all - (s + u)) < best
      · rw [if_pos hlt3] at hgo
        have hlt4 : ((max (s + u) (all - (s + u)) : Nat) : Int) < (best : Int) := by omega
        simp only [hlt4, ↓opsA, opsB, if_true, if_false, ↓reduceIte]
        rw [i64_of (n := (i : Int) + 1) (by omega) (by omega)]
        exact hk _ _ ⟨max (s + u) (all - (s + u)), i + 1, rfl, hgo, h.drop⟩
      · rw [if_neg hlt3] at hgo
        have hlt4 : ¬ ((max (s + u) (all - (s + u)) : Nat) : Int) < (best : Int) := by omega
        simp only [hlt4, ↓opsA, opsB, if_true, if_false, ↓reduceIte]
        exact hk _ _ ⟨best, at_, rfl, hgo, h.drop⟩
    · clear h
      rintro σ w ⟨best, at_, rfl, hgo, h⟩
      simp only [↓opsA, opsB, if_true, if_false, ↓reduceIte]
      rw [i64_of (n := (i : Int) + 1) (by omega) (by omega)]
      exact hag (xs.length - 1 - (i + 1)) _ _ (by omega) ⟨i + 1, _, best, at_, rfl, rfl, by omega, hs1.symm, hgo, h⟩
  · have : i = xs.length - 1 := by omega
    rw [List.drop_eq_nil_of_le (by omega)] at hgo
    have hgo : at_ = halfP ⟨leaf, esv xs⟩ := hgo
    rw [hgo]
    exact k w h.drop
end Go.Proofs.YtfaeklinhchidaaGreat
