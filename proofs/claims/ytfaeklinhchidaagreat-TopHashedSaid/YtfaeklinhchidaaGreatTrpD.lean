/-
  What TopPages keeps in mind. No program in sight.
-/
import Derived.Test.YtfaeklinhchidaaGreatTreD
import Derived.Test.YtfaeklinhchidaaGreatDskF
import Derived.Test.YtfaeklinhchidaaGreatWalT
import Derived.Test.YtfaeklinhchidaaGreatOpens
import Derived.Test.YtfaeklinhchidaaGreatPgrP
import Derived.Test.YtfaeklinhchidaaGreatPI
import Derived.Test.YtfaeklinhchidaaGreatPB
import Derived.Test.YtfaeklinhchidaaGreatStrs
set_option linter.all false
set_option maxRecDepth 100000
namespace Go.Proofs.YtfaeklinhchidaaGreat
open Go Hold Go.ChangeShapes Go.WideShapes
structure Kept (P : Pg) (gs : List (List Int)) (want : Bs) (i : Nat) : Prop where
  ok : POk P gs
  d : P.dirty = []
  w : P.S.W = []
  size : P.S.size = 20
  len : P.S.L.length = 60
  g : P.S.groups ≤ i
  h0 : P.hits = 0
  m0 : P.misses = 0
  wl : want.length = 39
  v : ∀ n, n < 39 → (P.S.view n)[7]? = want[n]?
structure In (P Q : Pg) (gs : List (List Int)) (want : Bs) (k : Nat) : Prop where
  ok : POk Q gs
  s : Q.S = P.S
  dl : Q.dirty.length ≤ k
  wl : want.length = 39
  v : ∀ n, n < 39 → (Q.page n)[7]? = want[n]?
theorem Kept.pages {P : Pg} {gs : List (List Int)} {want : Bs} {i : Nat} (k : Kept P gs want i) : P.S.pages = 39 := by
  have := k.size; have := k.len; unfold Lg.pages; omega
theorem Kept.start : Kept (newP (newL 60 20) 2) [] (List.replicate 39 0) 0 := by
  have i := newL_inv (n := 60) (size := 20) (by omega) (by omega) (by omega)
  refine ⟨newP_ok i (by omega) (by omega), rfl, rfl, rfl, by simp [newP, newL], by simp [newP, newL], rfl, rfl, by simp, fun n hn => ?_⟩
  have hpl : (newP (newL 60 20) 2).S.place n = 21 + n := by show (newL 60 20).place n = _; unfold Lg.place; simp [newL, lookA]
  unfold Lg.view
  rw [hpl]
  show ((List.replicate 60 zeros).getD _ _)[7]? = _
  rw [List.getD_eq_getElem?_getD, List.getElem?_replicate, if_pos (by omega), List.getElem?_replicate, if_pos (by omega)]
  rfl
theorem In.write {P Q : Pg} {gs gs0 : List (List Int)} {want w0 : Bs} {k i : Nat} (kp : Kept P gs0 w0 i) (h : In P Q gs want k) (hk : k < 100) {n : Nat} (hn : n < 39) {b : Bs} (hb : b.length = 256) {x : UInt8} (hx : b[7]? = some x) :
    writeE Q n b = 0 ∧ In P (writeT Q n b) gs (want.set n x) (k + 1) := by
  have hpg : Q.S.pages = 39 := by rw [h.s]; exact kp.pages
  have hdl := h.dl
  have he : writeE Q n b = 0 := by
    unfold writeE lookE
    rw [if_neg (by rw [if_neg (by omega)]; simp), if_neg (by omega), if_neg (by omega)]
  refine ⟨he, h.ok.write he, h.s, ?_, by rw [List.length_set]; exact h.wl, fun m hm => ?_⟩
  · show (putB Q.dirty n b).length ≤ k + 1
    rw [putB_len]; split <;> omega
  · show (((lookB (putB Q.dirty n b) m).getD (Q.S.view m)))[7]? = _
    rw [lookB_put, List.getElem?_set]
    by_cases e : n = m
    · subst e
      rw [if_pos rfl, if_pos rfl, if_pos (by rw [h.wl]; omega)]
      exact hx
    · rw [if_neg (by omega), if_neg e]
      exact h.v m hm
theorem In.com {P Q : Pg} {gs gs0 : List (List Int)} {want w0 : Bs} {k i : Nat} (kp : Kept P gs0 w0 i) (h : In P Q gs want k) (hk : k ≤ 15) :
    comE Q.S Q.dirty = 0 ∧ (Q.dirty.length = 0 → (comS Q.S Q.dirty).W.length = 0) ∧ Q.dirty.length + (if Q.dirty.length = 0 then 0 else 2) ≤ (comS Q.S Q.dirty).W.length ∧ (comS Q.S Q.dirty).W.length ≤ 2000 ∧ (comS Q.S Q.dirty).groups ≤ i + 1 ∧ (comS Q.S Q.dirty).L.length = 60 ∧
    (∀ n, n < 39 → ((comS Q.S Q.dirty).view n)[7]? = want[n]?) ∧ (comS Q.S Q.dirty).size = 20 := by
  have hpg : Q.S.pages = 39 := by rw [h.s]; exact kp.pages
  have hw0 : Q.S.W = [] := by rw [h.s]; exact kp.w
  have hg0 : Q.S.groups ≤ i := by rw [h.s]; exact kp.g
  have hs0 : Q.S.size = 20 := by rw [h.s]; exact kp.size
  have hl0 : Q.S.L.length = 60 := by rw [h.s]; exact kp.len
  have hdl := h.dl
  by_cases hd : Q.dirty.length = 0
  · have hd0 := List.length_eq_zero_iff.1 hd
    obtain ⟨c1, c2⟩ := com_nil Q.S
    rw [hd0, c1, c2, hw0]
    refine ⟨rfl, fun _ => rfl, by simp, by simp, by omega, hl0, fun n hn => ?_, hs0⟩
    have := h.v n hn
    unfold Pg.page at this
    rw [hd0] at this
    exact this
  · have hco := com_ok h.ok.i (ps := Q.dirty) (by omega) (by omega) (fun p hp => (h.ok.da p hp).1) ⟨h.ok.dn, fun p hp => (h.ok.da p hp).2⟩ (by omega)
    have g1 := hco.w1; have g2 := hco.w2; have g3 := hco.l; have g4 := hco.g
    rw [hw0] at g1 g2
    simp only [List.length_nil] at g1 g2
    refine ⟨hco.e, fun e => absurd e hd, by rw [if_neg hd]; omega, by omega, by omega, by omega, fun n hn => ?_, by rw [com_size]; exact hs0⟩
    rw [h.ok.i.com_view (by omega), if_pos hco.e]
    exact h.v n hn
theorem In.next {P Q : Pg} {gs gs0 : List (List Int)} {want w0 : Bs} {k i : Nat} (kp : Kept P gs0 w0 i) (h : In P Q gs want k) (hk : k ≤ 15) :
    ∃ gs', LInv (comS Q.S Q.dirty) gs' ∧ Kept (newP (ofL (comS Q.S Q.dirty) (comS Q.S Q.dirty).L) 2) gs' want (i + 1) := by
  obtain ⟨c1, c2, c3, c4, c5, c6, c7, c8⟩ := h.com kp hk
  obtain ⟨gs', i'⟩ := h.ok.i.com Q.dirty
  have i2 := i'.alike.inv i'
  exact ⟨gs', i', newP_ok i2 (by omega) (by omega), rfl, rfl, c8, c6, c5, rfl, rfl, h.wl, c7⟩
section
variable {W : World} {H : Type} {enc : TypeId × Value → H} {r : Reach} {b0 : Nat} {v : Value} {d : DataW H} {p : List MemPlace}
end
end Go.Proofs.YtfaeklinhchidaaGreat

/-
  A tree of a new disk.
-/
set_option linter.all false
set_option maxRecDepth 100000
namespace Go.Proofs.YtfaeklinhchidaaGreat
open Go Hold
variable {E : World0} {w : World} {H R X : HP} {K : Value → World → Prop}
def s00 : St := ⟨0, 0, 1, 0, fun _ => .zero⟩
theorem px_start {n : Nat} (h1 : 120 ≤ n) (h2 : n ≤ 1000) : PX (newP (newL n 110) 8) [] (n - 111) (fun _ => .zero) 0 0 1000000 := by
  have i := newL_inv (n := n) (size := 110) (by omega) (by omega) (by omega)
  refine ⟨newP_ok i (by omega) (by omega), rfl, ?_, by simp [newP, newL], by simp [newP, newL], by simp [newP], by simp [newP], fun m hm => ?_⟩
  · show (newL n 110).pages = n - 111
    unfold Lg.pages newL; simp; omega
  · have hpl : (newP (newL n 110) 8).S.place m = 111 + m := by show (newL n 110).place m = _; unfold Lg.place; simp [newL, lookA]
    show (lookB [] (m : Int)).getD ((newP (newL n 110) 8).S.view m) = _
    unfold Lg.view
    rw [hpl]
    show ((List.replicate n zeros).getD _ _) = _
    rw [List.getD_eq_getElem?_getD, List.getElem?_replicate, if_pos (by omega)]
    rfl
theorem nz_spec {x : UInt8} (k : K (.bool !(decide (x = 0))) w) : Calls prog 78 #[bv x] w (Ret K) := by
  refine c78 ?_
  unfold B78
  simp only [bv, ↓opsA, opsB, if_true, if_false, ↓reduceIte]
  have : decide ((x.toNat : Int) = 0) = decide (x = 0) := by
    by_cases h : x = 0
    · subst h; rfl
    · rw [decide_eq_false h, decide_eq_false]
      intro h2
      exact h (UInt8.toNat_inj.1 (by simpa using h2))
  rw [this]
  exact k
theorem allZero_spec (h : sat E w H) {v : Value} (hv : Rds H v 256 ((List.replicate 256 (0 : UInt8)).map bv)) (k : ∀ w', sat E w' H → K (.bool false) w') : Calls prog 74 #[v, .func (.func 78) #[] #[]] w (Ret K) := by
  obtain ⟨a, c, rfl, hc, hv, ha⟩ := hv.shape h
  refine c74 ?_
  unfold B74
  refine c115 ?_
  unfold B115
  simp only [↓opsA, opsB, if_true, if_false, ↓reduceIte]
  refine lp_nat (fun q σ w => ∃ i : Nat, σ = [.int .i64 i] ∧ q = 256 - i ∧ i ≤ 256 ∧ sat E w H) 256 ⟨0, rfl, rfl, by omega, h⟩ ?_
  rintro q σ w again ⟨i, rfl, rfl, hi, h⟩ hag
  simp only [↓opsA, opsB, if_true, if_false, ↓reduceIte]
  refine cd_dec (fun hlt => ?_) (fun hge => ?_)
  · have hlt : i < 256 := by omega
    obtain ⟨b1, o1, rfl, hb1⟩ := win_cell (hv.win h) (j := i) (by simpa using hlt)
    rw [o_index (by omega) (by omega)]
    simp only [Int.toNat_natCast, Nat.mul_one]
    refine ld_cell hb1 ?_
    rw [List.getElem_map, List.getElem_replicate]
    refine oCall_body Tryz.func78 (by kernel_rfl) (by kernel_rfl) ?_
    refine nz_spec ?_
    simp only [decide_true, Bool.not_true, cd_false, ↓opsA, opsB, if_true, if_false, ↓reduceIte]
    rw [i64_of (by omega) (by omega)]
    exact hag (256 - (i + 1)) _ _ (by omega) ⟨i + 1, rfl, rfl, by omega, h⟩
  · have h1 : ¬ (0 : Int) ≤ -1 := by omega
    simp only [h1, ↓opsA, opsB, if_true, if_false, ↓reduceIte]
    exact k w h
theorem OpenT_spec {A : Ad} {N c : Nat} (hN : 2 ≤ N) (h : sat E w (pX A N (fun _ => .zero) 0 0 (c + 1) * H)) (k : ∀ tb w', sat E w' (trT tb A N s00 0 0 c * H) → K (.tuple #[.pointer (some ⟨tb, 0, none⟩), .int .i64 0]) w') : Calls prog 17 #[.pointer (some ⟨A.q, 0, none⟩)] w (Ret K) := by
  refine c17 ?_
  unfold B17
  simp only [↓opsA, opsB, if_true, if_false, ↓reduceIte]
  refine XLog_spec h ?_
  refine XPages_spec h fun w h => ?_
  have h1 : ¬ (N : Int) < 2 := by omega
  simp only [h1, ↓opsA, opsB, if_true, if_false, ↓reduceIte]
  refine XDirty_spec h fun u w h => ?_
  obtain ⟨ua, uc, rfl, _, _, _⟩ := osl_shape h
  have h := h.drop
  simp only [↓opsA, opsB, if_true, if_false, ↓reduceIte, show decide ((0 : Int) < ((0 : Nat) : Int)) = false from rfl]
  refine pvv_of (v := .agg [Value.int .i64 0, .int .i64 0, .int .i64 0, .pointer (some ⟨A.q, 0, none⟩)].toArray) (fun w => by kernel_rfl) ?_
  refine box_sl h fun tb w h => ?_
  have h : sat E w (pts tb (.cells [Value.int .i64 0, .int .i64 0, .int .i64 0, .pointer (some ⟨A.q, 0, none⟩)].toArray 73 (0, 0)) * (pX A N (fun _ => .zero) 0 0 (c + 1) * H)) := h
  refine c47 ?_
  unfold B47
  rw [o_nil, o_field]
  refine ld_in (b := tb) (v := .pointer (some ⟨A.q, 0, none⟩)) h rfl ?_
  have h := h.perm (star_left_comm _ _ _)
  refine XRead_spec (n := 0) h (by omega) fun v w h => ?_
  obtain ⟨va, vc, rfl, _, _, _⟩ := osl_shape h
  rw [o_extract, o_extract]
  refine alloc_sl h fun bb w h => ?_
  have h : sat E w (pts bb (.cells [Value.slice none 0 0].toArray 22 (0, 0)) * _) := h
  refine store_at (b := bb) (xs := [Value.slice none 0 0]) h rfl (by simp) fun w h => ?_
  refine pvv_of (v := .agg [Value.int .i64 0, .int .i64 0, .int .i64 1].toArray) (fun w => by kernel_rfl) ?_
  rw [o_nil, o_field]
  have h := h.own tb
  refine store_part (b := tb) h (vs := [Value.int .i64 0, .int .i64 0, .int .i64 1]) [Value.int .i64 0, .int .i64 0, .int .i64 1, .pointer (some ⟨A.q, 0, none⟩)] rfl (by simp [Value.oneCell']) (by simp) rfl fun w h => ?_
  refine ld_in (b := bb) (v := .slice va 256 vc) h rfl ?_
  refine allZero_spec h (Rds.osl.left.right.right) fun w h => ?_
  simp only [↓opsA, opsB, if_true, if_false, ↓reduceIte]
  refine k tb w ?_
  have h := h.perm (show _ = osl 5 1 (.slice va 256 vc) 256 (((fun _ => PgC.zero) 0).bytes.map bv) * (pts bb (.cells [Value.slice va 256 vc].toArray 22 (0, 0)) * (trT tb A N s00 0 0 c * H)) by
    show _ = osl 5 1 (.slice va 256 vc) 256 (((fun _ => PgC.zero) 0).bytes.map bv) * (pts bb (.cells [Value.slice va 256 vc].toArray 22 (0, 0)) * ((pts tb (.cells [Value.int .i64 0, .int .i64 0, .int .i64 1, .pointer (some ⟨A.q, 0, none⟩)].toArray 73 (0, 0)) * pX A N (fun _ => .zero) 0 0 c) * H))
    ac_rfl)
  exact h.drop.drop
theorem tall_spec (h : sat E w H) {n : Nat} (h1 : 120 ≤ n) (h2 : n ≤ 1000) (k : ∀ tb A w', sat E w' (trT tb A (n - 111) s00 0 0 999999 * H) → K (.tuple #[.pointer (some ⟨tb, 0, none⟩), .int .i64 0]) w') : Calls prog 5 #[.int .i64 n, .int .i64 110] w (Ret K) := by
  refine c5 ?_
  unfold B5
  refine New_spec h (n := n) (by omega) (by omega) fun d0 w h => ?_
  simp only [↓opsA, opsB, if_true, if_false, ↓reduceIte]
  rw [Int.toNat_natCast] at h
  have i0 := newL_inv (n := n) (size := 110) (by omega) (by omega) (by omega)
  refine Open_spec (S := newL n 110) (gs := []) i0 rfl (by show (0 : Nat) < 2 ^ 62; decide) (dd := d0) (W := []) h (Z_wf (by omega) (by omega)) fun p d b w h => ?_
  try simp only [↓opsA, opsB, if_true, if_false, ↓reduceIte]
  refine PNew_spec (most := 8) h (by omega) (by omega) fun A w hA h => ?_
  try simp only [↓opsA, opsB, if_true, if_false, ↓reduceIte]
  have h := (h.perm (star_left_comm _ _ _)).drop
  have h : sat E w (pX A (n - 111) (fun _ => .zero) 0 0 1000000 * H) := sat_pX.2 ⟨_, _, px_start h1 h2, h⟩
  refine OpenT_spec (by omega) h fun tb w h => ?_
  simp only [↓opsA, opsB, if_true, if_false, ↓reduceIte]
  exact k tb A w h
end Go.Proofs.YtfaeklinhchidaaGreat

/-
  Copies and comparisons.
-/
set_option linter.all false
set_option maxRecDepth 10000
namespace Go.Proofs.YtfaeklinhchidaaGreat
open Go Hold
variable {E : World0} {w : World} {H R : HP} {K : Value → World → Prop}

theorem HClone_spec (h : sat E w H) {v : Value} {l : List UInt8} (hr : Rds H v l.length (l.map bv)) (hl : l.length ≤ 140737488355328)
    (k : ∀ v' w', sat E w' (osl 5 1 v' l.length (l.map bv) * H) → K v' w') : Calls prog 35 #[v] w (Ret K) := by
  obtain ⟨a, c, rfl, hc, hr, ha⟩ := hr.shape h
  refine c35 ?_
  unfold B35
  simp only [↓opsA, opsB, if_true, if_false, ↓reduceIte]
  cases a with
  | none =>
    have hn : l = [] := by simpa using ha rfl
    subst hn
    simp only [↓opsA, opsB, if_true, if_false, ↓reduceIte]
    exact k _ _ (osl_nil h 5 1)
  | some a =>
    simp only [↓opsA, opsB, if_true, if_false, ↓reduceIte]
    refine buildSlice_sl h (e := 5) (cs := #[]) (fun w => by kernel_rfl) ?_
    intro b w1 h1
    refine append_sl (osl_of (n := 0) (sz := 1) h1 rfl (by omega)) (l.map bv) (by simp) (hr.win h1.drop) (bv_one l) (by omega) (by omega) ?_
    intro v' w2 h2
    exact k _ _ (by simpa using h2)

end Go.Proofs.YtfaeklinhchidaaGreat

/-
  Bits turned.
-/
set_option linter.all false
set_option maxRecDepth 10000
namespace Go.Proofs.YtfaeklinhchidaaGreat
open Go Hold
variable {E : World0} {w : World} {H R : HP} {K : Value → World → Prop}
/-- Bits turned right. -/
def rotr (x : UInt32) (n : Nat) : UInt32 := (x <<< UInt32.ofNat (32 - n)) ||| (x >>> UInt32.ofNat n)
theorem Rot_spec (x : UInt32) {n : Nat} (h1 : 1 ≤ n) (h2 : n ≤ 31) (k : K (wv (rotr x n)) w) : Calls prog 67 #[wv x, .int .i64 (-(n : Int))] w (Ret K) := by
  refine c67 ?_
  unfold B67
  have e1 : IntKind.u64.wrap (-(n : Int)) = ((18446744073709551616 - n : Nat) : Int) := by rw [IntKind.wrap_u64]; omega
  simp only [↓opsA, opsB, if_true, if_false, ↓reduceIte, e1]
  refine pvv_of (v := .int .u64 ((32 - n : Nat) : Int)) (fun _ => ?_) ?_
  · have key : ∀ n : Fin 32, 1 ≤ n.val → IntKind.u64.wrap (((BitVec.ofInt 64 ((18446744073709551616 - n.val : Nat) : Int)) &&& (BitVec.ofInt 64 31)).toNat : Int) = ((32 - n.val : Nat) : Int) := by decide +kernel
    have := key ⟨n, by omega⟩ h1
    simp only [binOp, Op.intBits, IntKind.bits]
    simp
    exact this
  rw [o_shlW (by omega)]
  have e2 : IntKind.u64.wrap (32 - ((32 - n : Nat) : Int)) = (n : Int) := by rw [IntKind.wrap_u64]; omega
  simp only [↓opsA, opsB, if_true, if_false, ↓reduceIte, e2]
  rw [o_shrW (by omega), o_orW]
  exact k
end Go.Proofs.YtfaeklinhchidaaGreat

/-
  SHA-256, as the code reckons it.
-/
set_option linter.all false
set_option maxRecDepth 10000
namespace Go.Proofs.YtfaeklinhchidaaGreat
open Go Hold
def word (b : List UInt8) (i : Nat) : UInt32 :=
  (((b.getD (4 * i) 0).toUInt32 <<< UInt32.ofNat 24 ||| (b.getD (4 * i + 1) 0).toUInt32 <<< UInt32.ofNat 16) ||| (b.getD (4 * i + 2) 0).toUInt32 <<< UInt32.ofNat 8) ||| (b.getD (4 * i + 3) 0).toUInt32
def wNext (w : List UInt32) (i : Nat) : UInt32 :=
  w.getD (i - 16) 0 + ((rotr (w.getD (i - 15) 0) 7 ^^^ rotr (w.getD (i - 15) 0) 18) ^^^ w.getD (i - 15) 0 >>> UInt32.ofNat 3) + w.getD (i - 7) 0 + ((rotr (w.getD (i - 2) 0) 17 ^^^ rotr (w.getD (i - 2) 0) 19) ^^^ w.getD (i - 2) 0 >>> UInt32.ofNat 10)
def sched (b : List UInt8) : Nat → List UInt32
  | 0 => []
  | i + 1 => sched b i ++ [if i < 16 then word b i else wNext (sched b i) i]
theorem sched_length (b : List UInt8) : ∀ n, (sched b n).length = n
  | 0 => rfl
  | n + 1 => by simp [sched, sched_length b n]
structure HSt where
  (a b c d e f g h : UInt32)
def HSt.list (v : HSt) : List UInt32 := [v.a, v.b, v.c, v.d, v.e, v.f, v.g, v.h]
def big1 (e : UInt32) : UInt32 := (rotr e 6 ^^^ rotr e 11) ^^^ rotr e 25
def big0 (a : UInt32) : UInt32 := (rotr a 2 ^^^ rotr a 13) ^^^ rotr a 22
def tOf (k w : UInt32) (v : HSt) : UInt32 := v.h + big1 v.e + (v.g ^^^ (v.e &&& (v.f ^^^ v.g))) + k + w
def uOf (v : HSt) : UInt32 := big0 v.a + ((v.a &&& v.b) ||| (v.c &&& (v.a ||| v.b)))
def round (k w : UInt32) (v : HSt) : HSt := ⟨tOf k w v + uOf v, v.a, v.b, v.c, v.d + tOf k w v, v.e, v.f, v.g⟩
def rounds (ks ws : List UInt32) (v : HSt) : Nat → HSt
  | 0 => v
  | n + 1 => round (ks.getD n 0) (ws.getD n 0) (rounds ks ws v n)
def HSt.add (x y : HSt) : HSt := ⟨x.a + y.a, x.b + y.b, x.c + y.c, x.d + y.d, x.e + y.e, x.f + y.f, x.g + y.g, x.h + y.h⟩
def mix (ks : List UInt32) (st : HSt) (b : List UInt8) : HSt := st.add (rounds ks (sched b 64) st 64)
end Go.Proofs.YtfaeklinhchidaaGreat

/-
  mix: a block of 64 bytes, mixed into a hash.
-/
set_option linter.all false
set_option maxRecDepth 10000
namespace Go.Proofs.YtfaeklinhchidaaGreat
open Go Hold
variable {E : World0} {w : World} {H R : HP} {K : Value → World → Prop}
/-- The words of the block, the first sixteen. -/
theorem mix_early (h : sat E w H) {i : Nat} (hi : i < 64) (h16 : (i : Int) < 16) {b3 o bb c : Nat} {e : TypeId} {us : List UInt32} (hus : us.length = i) {b : List UInt8} (hb : Rds H (.slice (some ⟨bb, o, none⟩) b.length c) b.length (b.map bv)) (hbl : 64 ≤ b.length)
    [Own H b3 (.cells (us.map wv ++ List.replicate (64 - i) (wv 0)).toArray e (0, 0)) R] {k : List Value → World → Prop}
    (hk : ∀ w, sat E w (pts b3 (.cells ((us ++ [word b i]).map wv ++ List.replicate (64 - (i + 1)) (wv 0)).toArray e (0, 0)) * R) → k [] w) :
        dr w fun w =>
        pvv prog (binOp .mul 3 (.int .i64 4) (.int .i64 i)) w fun t_9 w =>
        pvv prog (Instr.indexAt 22 (.slice (some ⟨bb, o, none⟩) b.length c) t_9) w fun t_10 w =>
        pvv prog (binOp .mul 3 (.int .i64 4) (.int .i64 i)) w fun t_11 w =>
        pvv prog (binOp .add 3 t_11 (.int .i64 1)) w fun t_12 w =>
        pvv prog (Instr.indexAt 22 (.slice (some ⟨bb, o, none⟩) b.length c) t_12) w fun t_13 w =>
        pvv prog (binOp .mul 3 (.int .i64 4) (.int .i64 i)) w fun t_14 w =>
        pvv prog (binOp .add 3 t_14 (.int .i64 2)) w fun t_15 w =>
        pvv prog (Instr.indexAt 22 (.slice (some ⟨bb, o, none⟩) b.length c) t_15) w fun t_16 w =>
        pvv prog (binOp .mul 3 (.int .i64 4) (.int .i64 i)) w fun t_17 w =>
        pvv prog (binOp .add 3 t_17 (.int .i64 3)) w fun t_18 w =>
        pvv prog (Instr.indexAt 22 (.slice (some ⟨bb, o, none⟩) b.length c) t_18) w fun t_19 w =>
        bindS (vN (Instr.loadAt 5 t_10)) fun m_21 => ldv prog (Instr.loadAt 5 t_10) w fun t_20 w =>
        pvv prog (convert 5 88 t_20) w fun t_22 w =>
        pvv prog (binOp .shl 88 t_22 (.int .u64 24)) w fun t_23 w =>
        bindS (vN (Instr.loadAt 5 t_13)) fun m_25 => ldv prog (Instr.loadAt 5 t_13) w fun t_24 w =>
        pvv prog (convert 5 88 t_24) w fun t_26 w =>
        pvv prog (binOp .shl 88 t_26 (.int .u64 16)) w fun t_27 w =>
        pvv prog (binOp .or 88 t_23 t_27) w fun t_28 w =>
        bindS (vN (Instr.loadAt 5 t_16)) fun m_30 => ldv prog (Instr.loadAt 5 t_16) w fun t_29 w =>
        pvv prog (convert 5 88 t_29) w fun t_31 w =>
        pvv prog (binOp .shl 88 t_31 (.int .u64 8)) w fun t_32 w =>
        pvv prog (binOp .or 88 t_28 t_32) w fun t_33 w =>
        bindS (vN (Instr.loadAt 5 t_19)) fun m_35 => ldv prog (Instr.loadAt 5 t_19) w fun t_34 w =>
        pvv prog (convert 5 88 t_34) w fun t_36 w =>
        pvv prog (binOp .or 88 t_33 t_36) w fun t_37 w =>
        pvv prog (Instr.indexAt 143 (.pointer (some ⟨b3, 0, none⟩)) (.int .i64 i)) w fun t_38 w =>
        efu prog (Instr.storeAt 88 t_38 t_37) w fun u_39 w =>
        k [] w := by
  have e0 : IntKind.i64.wrap (4 * (i : Int)) = ((4 * i : Nat) : Int) := by rw [i64_of (by omega) (by omega)]; omega
  have e1 : IntKind.i64.wrap (((4 * i : Nat) : Int) + 1) = ((4 * i + 1 : Nat) : Int) := by rw [i64_of (by omega) (by omega)]; omega
  have e2 : IntKind.i64.wrap (((4 * i : Nat) : Int) + 2) = ((4 * i + 2 : Nat) : Int) := by rw [i64_of (by omega) (by omega)]; omega
  have e3 : IntKind.i64.wrap (((4 * i : Nat) : Int) + 3) = ((4 * i + 3 : Nat) : Int) := by rw [i64_of (by omega) (by omega)]; omega
  refine dr_sl h fun w h _ => ?_
  have ix : ∀ {j : Nat}, j < b.length → ∀ {w : World} {K : Value → World → Prop}, pvv prog (Instr.indexAt 22 (.slice (some ⟨bb, o, none⟩) b.length c) (.int .i64 (j : Int))) w K = K (.pointer (some ⟨bb, o + j, none⟩)) w := fun {j} hj {w K} => by
    rw [o_index (by omega) (by omega)]; simp
  simp only [e0, e1, e2, e3, ↓opsA, opsB, if_true, if_false, ↓reduceIte, ix (j := 4 * i) (by omega), ix (j := 4 * i + 1) (by omega), ix (j := 4 * i + 2) (by omega), ix (j := 4 * i + 3) (by omega)]
  refine ld_rd h hb _ rfl (getbv (by omega)) ?_
  rw [o_convBW, o_shlW' (by decide) (by decide)]
  refine ld_rd h hb _ rfl (getbv (by omega)) ?_
  rw [o_convBW, o_shlW' (by decide) (by decide), o_orW]
  refine ld_rd h hb _ rfl (getbv (by omega)) ?_
  rw [o_convBW, o_shlW' (by decide) (by decide), o_orW]
  refine ld_rd h hb _ rfl (getbv (by omega)) ?_
  rw [o_convBW, o_orW, o_indexA (by omega) (by omega)]
  refine store_sl (o := 0 + i) h rfl (by simp [hus]; omega) fun w h => ?_
  refine hk _ ?_
  have : (us.map wv ++ List.replicate (64 - i) (wv 0)).set (0 + i) (wv (word b i)) = (us ++ [word b i]).map wv ++ List.replicate (64 - (i + 1)) (wv 0) := by
    rw [Nat.zero_add, set_fill (by simpa using hus) (by omega)]; simp
  rw [← this]
  exact h
end Go.Proofs.YtfaeklinhchidaaGreat

/-
  mix: the block's further words.
-/
set_option linter.all false
set_option maxRecDepth 10000
namespace Go.Proofs.YtfaeklinhchidaaGreat
open Go Hold
variable {E : World0} {w : World} {H R : HP} {K : Value → World → Prop}
theorem mix_late (h : sat E w H) {i : Nat} (hi : i < 64) (h16 : ¬ (i : Int) < 16) {b3 : Nat} {e : TypeId} {us : List UInt32} (hus : us.length = i)
    [own : Own H b3 (.cells (us.map wv ++ List.replicate (64 - i) (wv 0)).toArray e (0, 0)) R] {k : List Value → World → Prop}
    (hk : ∀ w, sat E w (pts b3 (.cells ((us ++ [wNext us i]).map wv ++ List.replicate (64 - (i + 1)) (wv 0)).toArray e (0, 0)) * R) → k [] w) :
      dr w fun w =>
      pvv prog (binOp .sub 3 (.int .i64 i) (.int .i64 15)) w fun t_41 w =>
      pvv prog (Instr.indexAt 143 (.pointer (some ⟨b3, 0, none⟩)) t_41) w fun t_42 w =>
      pvv prog (binOp .sub 3 (.int .i64 i) (.int .i64 15)) w fun t_43 w =>
      pvv prog (Instr.indexAt 143 (.pointer (some ⟨b3, 0, none⟩)) t_43) w fun t_44 w =>
      pvv prog (binOp .sub 3 (.int .i64 i) (.int .i64 15)) w fun t_45 w =>
      pvv prog (Instr.indexAt 143 (.pointer (some ⟨b3, 0, none⟩)) t_45) w fun t_46 w =>
      bindS (vN (Instr.loadAt 88 t_42)) fun m_48 => ldv prog (Instr.loadAt 88 t_42) w fun t_47 w =>
      bindS (vN (Instr.loadAt 88 t_44)) fun m_50 => ldv prog (Instr.loadAt 88 t_44) w fun t_49 w =>
      bindS (vN (Instr.loadAt 88 t_46)) fun m_52 => ldv prog (Instr.loadAt 88 t_46) w fun t_51 w =>
      pvv prog (binOp .shr 88 t_51 (.int .u64 3)) w fun t_53 w =>
      Calls prog 67 #[t_47, (.int .i64 (-7))] w (Ret fun t_54 w => stay prog none m_52 t_51 w <| stay prog none m_50 t_49 w <| 
      Calls prog 67 #[t_49, (.int .i64 (-18))] w (Ret fun t_55 w => stay prog none m_52 t_51 w <| stay prog none m_48 t_47 w <| 
      pvv prog (binOp .xor 88 t_54 t_55) w fun t_56 w =>
      pvv prog (binOp .xor 88 t_56 t_53) w fun t_57 w =>
      dr w fun w =>
      pvv prog (binOp .sub 3 (.int .i64 i) (.int .i64 2)) w fun t_58 w =>
      pvv prog (Instr.indexAt 143 (.pointer (some ⟨b3, 0, none⟩)) t_58) w fun t_59 w =>
      pvv prog (binOp .sub 3 (.int .i64 i) (.int .i64 2)) w fun t_60 w =>
      pvv prog (Instr.indexAt 143 (.pointer (some ⟨b3, 0, none⟩)) t_60) w fun t_61 w =>
      pvv prog (binOp .sub 3 (.int .i64 i) (.int .i64 2)) w fun t_62 w =>
      pvv prog (Instr.indexAt 143 (.pointer (some ⟨b3, 0, none⟩)) t_62) w fun t_63 w =>
      bindS (vN (Instr.loadAt 88 t_59)) fun m_65 => ldv prog (Instr.loadAt 88 t_59) w fun t_64 w =>
      bindS (vN (Instr.loadAt 88 t_61)) fun m_67 => ldv prog (Instr.loadAt 88 t_61) w fun t_66 w =>
      bindS (vN (Instr.loadAt 88 t_63)) fun m_69 => ldv prog (Instr.loadAt 88 t_63) w fun t_68 w =>
      pvv prog (binOp .shr 88 t_68 (.int .u64 10)) w fun t_70 w =>
      Calls prog 67 #[t_64, (.int .i64 (-17))] w (Ret fun t_71 w => stay prog none m_69 t_68 w <| stay prog none m_67 t_66 w <| 
      Calls prog 67 #[t_66, (.int .i64 (-19))] w (Ret fun t_72 w => stay prog none m_69 t_68 w <| stay prog none m_65 t_64 w <| 
      pvv prog (binOp .xor 88 t_71 t_72) w fun t_73 w =>
      pvv prog (binOp .xor 88 t_73 t_70) w fun t_74 w =>
      dr w fun w =>
      pvv prog (binOp .sub 3 (.int .i64 i) (.int .i64 16)) w fun t_75 w =>
      pvv prog (Instr.indexAt 143 (.pointer (some ⟨b3, 0, none⟩)) t_75) w fun t_76 w =>
      pvv prog (binOp .sub 3 (.int .i64 i) (.int .i64 7)) w fun t_77 w =>
      pvv prog (Instr.indexAt 143 (.pointer (some ⟨b3, 0, none⟩)) t_77) w fun t_78 w =>
      bindS (vN (Instr.loadAt 88 t_76)) fun m_80 => ldv prog (Instr.loadAt 88 t_76) w fun t_79 w =>
      pvv prog (binOp .add 88 t_79 t_57) w fun t_81 w =>
      bindS (vN (Instr.loadAt 88 t_78)) fun m_83 => ldv prog (Instr.loadAt 88 t_78) w fun t_82 w =>
      pvv prog (binOp .add 88 t_81 t_82) w fun t_84 w =>
      pvv prog (binOp .add 88 t_84 t_74) w fun t_85 w =>
      pvv prog (Instr.indexAt 143 (.pointer (some ⟨b3, 0, none⟩)) (.int .i64 i)) w fun t_86 w =>
      efu prog (Instr.storeAt 88 t_86 t_85) w fun u_87 w =>
      k [] w)))) := by
  have e15 : IntKind.i64.wrap ((i : Int) - 15) = ((i - 15 : Nat) : Int) := by rw [i64_of (by omega) (by omega)]; omega
  have e2 : IntKind.i64.wrap ((i : Int) - 2) = ((i - 2 : Nat) : Int) := by rw [i64_of (by omega) (by omega)]; omega
  have e16 : IntKind.i64.wrap ((i : Int) - 16) = ((i - 16 : Nat) : Int) := by rw [i64_of (by omega) (by omega)]; omega
  have e7 : IntKind.i64.wrap ((i : Int) - 7) = ((i - 7 : Nat) : Int) := by rw [i64_of (by omega) (by omega)]; omega
  have ix : ∀ {j : Nat}, j < 64 → ∀ {w : World} {K : Value → World → Prop}, pvv prog (Instr.indexAt 143 (.pointer (some ⟨b3, 0, none⟩)) (.int .i64 (j : Int))) w K = K (.pointer (some ⟨b3, j, none⟩)) w := fun {j} hj {w K} => by
    rw [o_indexA (by omega) (by omega)]; simp
  have h := h.own b3
  have gw : ∀ {j : Nat}, j < i → (us.map wv ++ List.replicate (64 - i) (wv 0))[j]? = some (wv (us.getD j 0)) := fun hj => getwv (by omega)
  refine dr_sl h fun w h _ => ?_
  simp only [e15, ↓opsA, opsB, if_true, if_false, ↓reduceIte, ix (j := i - 15) (by omega)]
  refine ld_in h (gw (by omega)) (ld_in h (gw (by omega)) (ld_in h (gw (by omega)) ?_))
  rw [o_shrW' (by decide) (by decide)]
  refine Rot_spec _ (n := 7) (by decide) (by decide) ?_
  try simp only [stay_v]
  refine st_in h (gw (by omega)) (st_in h (gw (by omega)) ?_)
  refine Rot_spec _ (n := 18) (by decide) (by decide) ?_
  try simp only [stay_v]
  refine st_in h (gw (by omega)) (st_in h (gw (by omega)) ?_)
  rw [o_xorW, o_xorW]
  refine dr_sl h fun w h _ => ?_
  simp only [e2, ↓opsA, opsB, if_true, if_false, ↓reduceIte, ix (j := i - 2) (by omega)]
  refine ld_in h (gw (by omega)) (ld_in h (gw (by omega)) (ld_in h (gw (by omega)) ?_))
  rw [o_shrW' (by decide) (by decide)]
  refine Rot_spec _ (n := 17) (by decide) (by decide) ?_
  try simp only [stay_v]
  refine st_in h (gw (by omega)) (st_in h (gw (by omega)) ?_)
  refine Rot_spec _ (n := 19) (by decide) (by decide) ?_
  try simp only [stay_v]
  refine st_in h (gw (by omega)) (st_in h (gw (by omega)) ?_)
  rw [o_xorW, o_xorW]
  refine dr_sl h fun w h _ => ?_
  simp only [e16, e7, ↓opsA, opsB, if_true, if_false, ↓reduceIte, ix (j := i - 16) (by omega), ix (j := i - 7) (by omega)]
  refine ld_in h (gw (by omega)) ?_
  rw [o_addW]
  refine ld_in h (gw (by omega)) ?_
  rw [o_addW, o_addW, ix hi]
  refine store_sl h rfl (by simp [hus]; omega) fun w h => ?_
  refine hk _ ?_
  rw [set_fill (by simpa using hus) (by omega)] at h
  have e : us.map wv ++ [wv (wNext us i)] = (us ++ [wNext us i]).map wv := by simp
  rw [← e]
  exact h
end Go.Proofs.YtfaeklinhchidaaGreat

/-
  mix: one round.
-/
set_option linter.all false
set_option maxRecDepth 10000
namespace Go.Proofs.YtfaeklinhchidaaGreat
open Go Hold
variable {E : World0} {w : World} {H R : HP} {K : Value → World → Prop}
theorem mix_round (h : sat E w H) {i : Nat} (hi : i < 64) {b3 bk bq : Nat} {e1 e2 e3 : TypeId} {fr1 fr2 : Nat × Nat} {ks ws : List UInt32} (hks : ks.length = 64) (hws : ws.length = 64) {v : HSt}
    [own : Own H bq (.cells (v.list.map wv).toArray e3 (0, 0)) R] [hb3 : Has R b3 (.cells (ws.map wv).toArray e1 fr1)] [hbk : Has R bk (.cells (ks.map wv).toArray e2 fr2)] {k : List Value → World → Prop}
    (hk : ∀ w, sat E w (pts bq (.cells ((round (ks.getD i 0) (ws.getD i 0) v).list.map wv).toArray e3 (0, 0)) * R) → k [.int .i64 ((i + 1 : Nat) : Int)] w) :
        dr w fun w =>
        pvv prog (Instr.indexAt 90 (.pointer (some ⟨bq, 0, none⟩)) (.int .i64 4)) w fun t_99 w =>
        pvv prog (Instr.indexAt 90 (.pointer (some ⟨bq, 0, none⟩)) (.int .i64 4)) w fun t_100 w =>
        pvv prog (Instr.indexAt 90 (.pointer (some ⟨bq, 0, none⟩)) (.int .i64 4)) w fun t_101 w =>
        bindS (vN (Instr.loadAt 88 t_99)) fun m_103 => ldv prog (Instr.loadAt 88 t_99) w fun t_102 w =>
        bindS (vN (Instr.loadAt 88 t_100)) fun m_105 => ldv prog (Instr.loadAt 88 t_100) w fun t_104 w =>
        bindS (vN (Instr.loadAt 88 t_101)) fun m_107 => ldv prog (Instr.loadAt 88 t_101) w fun t_106 w =>
        Calls prog 67 #[t_102, (.int .i64 (-6))] w (Ret fun t_108 w => stay prog none m_107 t_106 w <| stay prog none m_105 t_104 w <| 
        Calls prog 67 #[t_104, (.int .i64 (-11))] w (Ret fun t_109 w => stay prog none m_107 t_106 w <| stay prog none m_103 t_102 w <| 
        pvv prog (binOp .xor 88 t_108 t_109) w fun t_110 w =>
        Calls prog 67 #[t_106, (.int .i64 (-25))] w (Ret fun t_111 w => stay prog none m_105 t_104 w <| stay prog none m_103 t_102 w <| 
        pvv prog (binOp .xor 88 t_110 t_111) w fun t_112 w =>
        dr w fun w =>
        pvv prog (Instr.indexAt 90 (.pointer (some ⟨bq, 0, none⟩)) (.int .i64 7)) w fun t_113 w =>
        pvv prog (Instr.indexAt 90 (.pointer (some ⟨bq, 0, none⟩)) (.int .i64 6)) w fun t_114 w =>
        pvv prog (Instr.indexAt 90 (.pointer (some ⟨bq, 0, none⟩)) (.int .i64 4)) w fun t_115 w =>
        pvv prog (Instr.indexAt 90 (.pointer (some ⟨bq, 0, none⟩)) (.int .i64 5)) w fun t_116 w =>
        pvv prog (Instr.indexAt 90 (.pointer (some ⟨bq, 0, none⟩)) (.int .i64 6)) w fun t_117 w =>
        pv prog (oNil (.pointer (some ⟨bk, 0, none⟩))) w fun t_118 w =>
        pvv prog (Instr.indexAt 143 t_118 (.int .i64 i)) w fun t_119 w =>
        pvv prog (Instr.indexAt 143 (.pointer (some ⟨b3, 0, none⟩)) (.int .i64 i)) w fun t_120 w =>
        bindS (vN (Instr.loadAt 88 t_113)) fun m_122 => ldv prog (Instr.loadAt 88 t_113) w fun t_121 w =>
        pvv prog (binOp .add 88 t_121 t_112) w fun t_123 w =>
        bindS (vN (Instr.loadAt 88 t_114)) fun m_125 => ldv prog (Instr.loadAt 88 t_114) w fun t_124 w =>
        bindS (vN (Instr.loadAt 88 t_115)) fun m_127 => ldv prog (Instr.loadAt 88 t_115) w fun t_126 w =>
        bindS (vN (Instr.loadAt 88 t_116)) fun m_129 => ldv prog (Instr.loadAt 88 t_116) w fun t_128 w =>
        bindS (vN (Instr.loadAt 88 t_117)) fun m_131 => ldv prog (Instr.loadAt 88 t_117) w fun t_130 w =>
        pvv prog (binOp .xor 88 t_128 t_130) w fun t_132 w =>
        pvv prog (binOp .and 88 t_126 t_132) w fun t_133 w =>
        pvv prog (binOp .xor 88 t_124 t_133) w fun t_134 w =>
        pvv prog (binOp .add 88 t_123 t_134) w fun t_135 w =>
        bindS (vN (Instr.loadAt 88 t_119)) fun m_137 => ldv prog (Instr.loadAt 88 t_119) w fun t_136 w =>
        pvv prog (binOp .add 88 t_135 t_136) w fun t_138 w =>
        bindS (vN (Instr.loadAt 88 t_120)) fun m_140 => ldv prog (Instr.loadAt 88 t_120) w fun t_139 w =>
        pvv prog (binOp .add 88 t_138 t_139) w fun t_141 w =>
        dr w fun w =>
        pvv prog (Instr.indexAt 90 (.pointer (some ⟨bq, 0, none⟩)) (.int .i64 0)) w fun t_142 w =>
        pvv prog (Instr.indexAt 90 (.pointer (some ⟨bq, 0, none⟩)) (.int .i64 0)) w fun t_143 w =>
        pvv prog (Instr.indexAt 90 (.pointer (some ⟨bq, 0, none⟩)) (.int .i64 0)) w fun t_144 w =>
        bindS (vN (Instr.loadAt 88 t_142)) fun m_146 => ldv prog (Instr.loadAt 88 t_142) w fun t_145 w =>
        bindS (vN (Instr.loadAt 88 t_143)) fun m_148 => ldv prog (Instr.loadAt 88 t_143) w fun t_147 w =>
        bindS (vN (Instr.loadAt 88 t_144)) fun m_150 => ldv prog (Instr.loadAt 88 t_144) w fun t_149 w =>
        Calls prog 67 #[t_145, (.int .i64 (-2))] w (Ret fun t_151 w => stay prog none m_150 t_149 w <| stay prog none m_148 t_147 w <| 
        Calls prog 67 #[t_147, (.int .i64 (-13))] w (Ret fun t_152 w => stay prog none m_150 t_149 w <| stay prog none m_146 t_145 w <| 
        pvv prog (binOp .xor 88 t_151 t_152) w fun t_153 w =>
        Calls prog 67 #[t_149, (.int .i64 (-22))] w (Ret fun t_154 w => stay prog none m_148 t_147 w <| stay prog none m_146 t_145 w <| 
        pvv prog (binOp .xor 88 t_153 t_154) w fun t_155 w =>
        pvv prog (Instr.indexAt 90 (.pointer (some ⟨bq, 0, none⟩)) (.int .i64 0)) w fun t_156 w =>
        ldv prog (Instr.loadAt 88 t_156) w fun t_157 w =>
        pvv prog (Instr.indexAt 90 (.pointer (some ⟨bq, 0, none⟩)) (.int .i64 1)) w fun t_158 w =>
        ldv prog (Instr.loadAt 88 t_158) w fun t_159 w =>
        pvv prog (binOp .and 88 t_157 t_159) w fun t_160 w =>
        pvv prog (Instr.indexAt 90 (.pointer (some ⟨bq, 0, none⟩)) (.int .i64 2)) w fun t_161 w =>
        ldv prog (Instr.loadAt 88 t_161) w fun t_162 w =>
        pvv prog (Instr.indexAt 90 (.pointer (some ⟨bq, 0, none⟩)) (.int .i64 0)) w fun t_163 w =>
        ldv prog (Instr.loadAt 88 t_163) w fun t_164 w =>
        pvv prog (Instr.indexAt 90 (.pointer (some ⟨bq, 0, none⟩)) (.int .i64 1)) w fun t_165 w =>
        ldv prog (Instr.loadAt 88 t_165) w fun t_166 w =>
        pvv prog (binOp .or 88 t_164 t_166) w fun t_167 w =>
        pvv prog (binOp .and 88 t_162 t_167) w fun t_168 w =>
        pvv prog (binOp .or 88 t_160 t_168) w fun t_169 w =>
        pvv prog (binOp .add 88 t_155 t_169) w fun t_170 w =>
        dr w fun w =>
        pvv prog (Instr.sliceAt 90 (.pointer (some ⟨bq, 0, none⟩)) (some (.int .i64 1)) none none) w fun t_171 w =>
        pvv prog (Instr.sliceAt 90 (.pointer (some ⟨bq, 0, none⟩)) none (some (.int .i64 7)) none) w fun t_172 w =>
        ef prog (oBi .copy #[145, 145] 3 #[false, false] #[t_171, t_172]) w fun t_173 w =>
        pvv prog (Instr.indexAt 90 (.pointer (some ⟨bq, 0, none⟩)) (.int .i64 4)) w fun t_174 w =>
        ldv prog (Instr.loadAt 88 t_174) w fun t_175 w =>
        pvv prog (binOp .add 88 t_175 t_141) w fun t_176 w =>
        pvv prog (Instr.indexAt 90 (.pointer (some ⟨bq, 0, none⟩)) (.int .i64 4)) w fun t_177 w =>
        efu prog (Instr.storeAt 88 t_177 t_176) w fun u_178 w =>
        pvv prog (binOp .add 88 t_141 t_170) w fun t_179 w =>
        pvv prog (Instr.indexAt 90 (.pointer (some ⟨bq, 0, none⟩)) (.int .i64 0)) w fun t_180 w =>
        efu prog (Instr.storeAt 88 t_180 t_179) w fun u_181 w =>
        pvv prog (binOp .add 3 (.int .i64 i) (.int .i64 1)) w fun t_182 w =>
        k [t_182] w)))))) := by
  have ix : ∀ {j : Nat}, j < 64 → ∀ {b : Nat} {w : World} {K : Value → World → Prop}, pvv prog (Instr.indexAt 143 (.pointer (some ⟨b, 0, none⟩)) (.int .i64 (j : Int))) w K = K (.pointer (some ⟨b, j, none⟩)) w := fun {j} hj {b w K} => by
    rw [o_indexA (by omega) (by omega)]; simp
  have i0 : ∀ {w : World} {K : Value → World → Prop}, pvv prog (Instr.indexAt 90 (.pointer (some ⟨bq, 0, none⟩)) (.int .i64 0)) w K = K (.pointer (some ⟨bq, 0, none⟩)) w := o_indexA (by decide) (by decide)
  have i1 : ∀ {w : World} {K : Value → World → Prop}, pvv prog (Instr.indexAt 90 (.pointer (some ⟨bq, 0, none⟩)) (.int .i64 1)) w K = K (.pointer (some ⟨bq, 1, none⟩)) w := o_indexA (by decide) (by decide)
  have i2 : ∀ {w : World} {K : Value → World → Prop}, pvv prog (Instr.indexAt 90 (.pointer (some ⟨bq, 0, none⟩)) (.int .i64 2)) w K = K (.pointer (some ⟨bq, 2, none⟩)) w := o_indexA (by decide) (by decide)
  have i4 : ∀ {w : World} {K : Value → World → Prop}, pvv prog (Instr.indexAt 90 (.pointer (some ⟨bq, 0, none⟩)) (.int .i64 4)) w K = K (.pointer (some ⟨bq, 4, none⟩)) w := o_indexA (by decide) (by decide)
  have i5 : ∀ {w : World} {K : Value → World → Prop}, pvv prog (Instr.indexAt 90 (.pointer (some ⟨bq, 0, none⟩)) (.int .i64 5)) w K = K (.pointer (some ⟨bq, 5, none⟩)) w := o_indexA (by decide) (by decide)
  have i6 : ∀ {w : World} {K : Value → World → Prop}, pvv prog (Instr.indexAt 90 (.pointer (some ⟨bq, 0, none⟩)) (.int .i64 6)) w K = K (.pointer (some ⟨bq, 6, none⟩)) w := o_indexA (by decide) (by decide)
  have i7 : ∀ {w : World} {K : Value → World → Prop}, pvv prog (Instr.indexAt 90 (.pointer (some ⟨bq, 0, none⟩)) (.int .i64 7)) w K = K (.pointer (some ⟨bq, 7, none⟩)) w := o_indexA (by decide) (by decide)
  have h : sat E w (pts bq (.cells [wv v.a, wv v.b, wv v.c, wv v.d, wv v.e, wv v.f, wv v.g, wv v.h].toArray e3 (0, 0)) * R) := h.own bq
  refine dr_sl h fun w h _ => ?_
  simp only [↓opsA, opsB, if_true, if_false, ↓reduceIte, i4]
  refine ld_at h (ld_at h (ld_at h ?_))
  refine Rot_spec _ (n := 6) (by decide) (by decide) ?_
  try simp only [stay_v]
  refine st_at h (st_at h ?_)
  refine Rot_spec _ (n := 11) (by decide) (by decide) ?_
  try simp only [stay_v]
  refine st_at h (st_at h ?_)
  rw [o_xorW]
  refine Rot_spec _ (n := 25) (by decide) (by decide) ?_
  try simp only [stay_v]
  refine st_at h (st_at h ?_)
  rw [o_xorW]
  refine dr_sl h fun w h _ => ?_
  simp only [↓opsA, opsB, if_true, if_false, ↓reduceIte, i0, i1, i2, i4, i5, i6, i7, ix hi]
  refine ld_at h ?_
  rw [o_addW]
  refine ld_at h (ld_at h (ld_at h (ld_at h ?_)))
  rw [o_xorW, o_andW, o_xorW, o_addW]
  refine ld_in (b := bk) h (getwv' (by omega)) ?_
  rw [o_addW]
  refine ld_in (b := b3) h (getwv' (by omega)) ?_
  rw [o_addW]
  refine dr_sl h fun w h _ => ?_
  try simp only [↓opsA, opsB, if_true, if_false, ↓reduceIte, i0, i1, i2, i4, i5, i6, i7]
  refine ld_at h (ld_at h (ld_at h ?_))
  refine Rot_spec _ (n := 2) (by decide) (by decide) ?_
  try simp only [stay_v]
  refine st_at h (st_at h ?_)
  refine Rot_spec _ (n := 13) (by decide) (by decide) ?_
  try simp only [stay_v]
  refine st_at h (st_at h ?_)
  rw [o_xorW]
  refine Rot_spec _ (n := 22) (by decide) (by decide) ?_
  try simp only [stay_v]
  refine st_at h (st_at h ?_)
  rw [o_xorW]
  try simp only [↓opsA, opsB, if_true, if_false, ↓reduceIte, i0, i1, i2, i4, i5, i6, i7]
  refine ld_at h ?_
  refine ld_at h ?_
  rw [o_andW]
  refine ld_at h (ld_at h (ld_at h ?_))
  rw [o_orW, o_andW, o_orW, o_addW]
  refine dr_sl h fun w h _ => ?_
  rw [o_sliceA_l (by decide) (by decide), o_sliceA_h (by decide) (by decide)]
  refine copy_in (b := bq) (k' := 7) h (news := [wv v.a, wv v.b, wv v.c, wv v.d, wv v.e, wv v.f, wv v.g]) rfl (.inr ⟨bq, 0, _, _, _, rfl, Has.get h, fun j u hj => ?_⟩) (by simp [wv, Value.oneCell']) (by simp) fun w h => ?_
  · have := (List.getElem?_eq_some_iff.1 hj).1
    have hj7 : j < 7 := this
    rw [Nat.zero_add]
    match j, hj7 with
    | 0, _ => exact hj
    | 1, _ => exact hj
    | 2, _ => exact hj
    | 3, _ => exact hj
    | 4, _ => exact hj
    | 5, _ => exact hj
    | 6, _ => exact hj
  have h : sat E w (pts bq (.cells [wv v.a, wv v.a, wv v.b, wv v.c, wv v.d, wv v.e, wv v.f, wv v.g].toArray e3 (0, 0)) * R) := h
  try simp only [↓opsA, opsB, if_true, if_false, ↓reduceIte, i0, i1, i2, i4, i5, i6, i7]
  refine ld_at h ?_
  rw [o_addW]
  try rw [i4]
  refine store_at h rfl (by simp) fun w h => ?_
  rw [o_addW]
  try rw [i0]
  refine store_at h rfl (by simp) fun w h => ?_
  try rw [o_add]
  rw [i64_of (by omega) (by omega)]
  exact hk _ h
end Go.Proofs.YtfaeklinhchidaaGreat

/-
  mix, whole.
-/
set_option linter.all false
set_option maxRecDepth 10000
namespace Go.Proofs.YtfaeklinhchidaaGreat
open Go Hold
variable {E : World0} {w : World} {H R : HP} {K : Value → World → Prop}
theorem take_drop_set {α : Type} {x y : List α} {n i : Nat} {v : α} (hx : x.length = n) (hy : y.length = n) (hi : i < n) (hv : x[i]? = some v) : (x.take i ++ y.drop i).set i v = x.take (i + 1) ++ y.drop (i + 1) := by
  apply List.ext_getElem?
  intro j
  rw [List.getElem?_set, List.getElem?_append, List.getElem?_append]
  simp only [List.length_append, List.length_take, List.length_drop, List.getElem?_take, List.getElem?_drop, hx, hy]
  by_cases h1 : i = j
  · subst h1
    have : i < min i n + (n - i) := by omega
    have h3 : i < min (i + 1) n := by omega
    simp [this, h3, hv]
  · rw [if_neg h1]
    by_cases h2 : j < i
    · have h3 : j < min i n := by omega
      have h4 : j < min (i + 1) n := by omega
      have h5 : j < i + 1 := by omega
      simp [h3, h4, h2, h5]
    · have h3 : ¬ j < min i n := by omega
      have h4 : ¬ j < min (i + 1) n := by omega
      rw [if_neg h3, if_neg h4]
      congr 1; omega
theorem take_drop_get {α : Type} {x y : List α} {n i : Nat} (hx : x.length = n) (hi : i < n) : (x.take i ++ y.drop i)[i]? = y[i]? := by
  rw [List.getElem?_append_right (by simp; omega)]
  simp only [List.length_take, List.getElem?_drop]
  congr 1; omega
theorem wv_one (l : List UInt32) : ∀ x ∈ l.map wv, x.oneCell' = true := by
  intro x hx
  obtain ⟨b, _, rfl⟩ := List.mem_map.1 hx
  rfl
theorem HSt.len (v : HSt) : v.list.length = 8 := rfl
theorem HSt.add_get (x y : HSt) : ∀ {i : Nat}, i < 8 → (x.add y).list.getD i 0 = x.list.getD i 0 + y.list.getD i 0
  | 0, _ => rfl
  | 1, _ => rfl
  | 2, _ => rfl
  | 3, _ => rfl
  | 4, _ => rfl
  | 5, _ => rfl
  | 6, _ => rfl
  | 7, _ => rfl
  | n + 8, h => by omega
theorem mix_spec (h : sat E w H) {st : HSt} {bk : Nat} {ek : TypeId} {frk : Nat × Nat} {ks : List UInt32} (hks : ks.length = 64) [hbk : Has H bk (.cells (ks.map wv).toArray ek frk)] {vb : Value} {b : List UInt8} (hb : Rds H vb b.length (b.map bv)) (hbl : 64 ≤ b.length)
    (hK : ∀ w, sat E w H → K (.agg ((mix ks st b).list.map wv).toArray) w) :
    Calls prog 34 #[.agg (st.list.map wv).toArray, .pointer (some ⟨bk, 0, none⟩), vb] w (Ret K) := by
  obtain ⟨bb, o, c, rfl, hc, hb⟩ := hb.opened h (by simp; omega)
  refine c34 ?_
  unfold B34
  refine box_sl h fun b1 w h => ?_
  refine alloc_sl h fun b2 w h => ?_
  refine alloc_sl h fun b3 w h => ?_
  have h : sat E w (pts b3 (.cells (List.replicate 64 (wv 0)).toArray 143 (0, 0)) * (pts b2 (.cells (List.replicate 8 (wv 0)).toArray 90 (0, 0)) * (pts b1 (.cells (st.list.map wv).toArray 90 (0, 0)) * H))) := h
  refine lp_nat (fun m σ w => ∃ i : Nat, σ = [.int .i64 i] ∧ m = 64 - i ∧ i ≤ 64 ∧
    sat E w (pts b3 (.cells ((sched b i).map wv ++ List.replicate (64 - i) (wv 0)).toArray 143 (0, 0)) * (pts b2 (.cells (List.replicate 8 (wv 0)).toArray 90 (0, 0)) * (pts b1 (.cells (st.list.map wv).toArray 90 (0, 0)) * H)))) 64 ⟨0, rfl, rfl, by omega, h⟩ ?_
  rintro m σ w again ⟨i, rfl, rfl, hi, h⟩ hag
  have hb' : Rds (pts b3 (.cells ((sched b i).map wv ++ List.replicate (64 - i) (wv 0)).toArray 143 (0, 0)) * (pts b2 (.cells (List.replicate 8 (wv 0)).toArray 90 (0, 0)) * (pts b1 (.cells (st.list.map wv).toArray 90 (0, 0)) * H))) _ _ _ := hb.right.right.right
  rw [pop_cons, fin_nil, o_lss]
  refine cd_dec (fun hlt => ?_) (fun hge => ?_)
  · have hlt : i < 64 := by omega
    refine jn_cut (fun σ w => σ = [] ∧ sat E w (pts b3 (.cells ((sched b (i + 1)).map wv ++ List.replicate (64 - (i + 1)) (wv 0)).toArray 143 (0, 0)) * (pts b2 (.cells (List.replicate 8 (wv 0)).toArray 90 (0, 0)) * (pts b1 (.cells (st.list.map wv).toArray 90 (0, 0)) * H)))) ?_ ?_
    · intro kk hk
      rw [o_lss]
      by_cases h16 : (i : Int) < 16
      · rw [decide_eq_true h16, cd_true]
        refine mix_early h hlt h16 (sched_length b i) hb' hbl fun w h => hk _ _ ⟨rfl, ?_⟩
        have h16' : i < 16 := by omega
        have e : sched b (i + 1) = sched b i ++ [word b i] := by simp [sched, h16']
        rw [e]; exact h
      · rw [decide_eq_false h16, cd_false]
        refine mix_late h hlt h16 (sched_length b i) fun w h => hk _ _ ⟨rfl, ?_⟩
        have h16' : ¬ i < 16 := by omega
        have e : sched b (i + 1) = sched b i ++ [wNext (sched b i) i] := by simp [sched, h16']
        rw [e]; exact h
    · rintro σ w ⟨rfl, h⟩
      simp only [↓opsA, opsB, if_true, if_false, ↓reduceIte]
      rw [i64_of (by omega) (by omega)]
      exact hag _ _ _ (by omega) ⟨i + 1, rfl, rfl, by omega, h⟩
  · have hi64 : i = 64 := by omega
    subst hi64
    have h : sat E w (pts b3 (.cells ((sched b 64).map wv).toArray 143 (0, 0)) * (pts b2 (.cells (List.replicate 8 (wv 0)).toArray 90 (0, 0)) * (pts b1 (.cells (st.list.map wv).toArray 90 (0, 0)) * H))) := by
      simpa using h
    refine ld_agg h (by simp [HSt.len]) ?_
    refine alloc_sl h fun b4 w h => ?_
    have h : sat E w (pts b4 (.cells (List.replicate 8 (wv 0)).toArray 90 (0, 0)) * (pts b3 (.cells ((sched b 64).map wv).toArray 143 (0, 0)) * (pts b2 (.cells (List.replicate 8 (wv 0)).toArray 90 (0, 0)) * (pts b1 (.cells (st.list.map wv).toArray 90 (0, 0)) * H)))) := h
    refine storeN_sl (b := b4) h (aggC_90).size (vs := st.list.map wv) (by simp [Value.cells]) (by simp [HSt.len]) (wv_one _) (by simp) fun w h => ?_
    have h : sat E w (pts b4 (.cells (st.list.map wv).toArray 90 (0, 0)) * (pts b3 (.cells ((sched b 64).map wv).toArray 143 (0, 0)) * (pts b2 (.cells (List.replicate 8 (wv 0)).toArray 90 (0, 0)) * (pts b1 (.cells (st.list.map wv).toArray 90 (0, 0)) * H)))) := h
    refine lp_nat (fun m σ w => ∃ i : Nat, σ = [.int .i64 i] ∧ m = 64 - i ∧ i ≤ 64 ∧
      sat E w (pts b4 (.cells ((Go.Proofs.YtfaeklinhchidaaGreat.rounds ks (sched b 64) st i).list.map wv).toArray 90 (0, 0)) * (pts b3 (.cells ((sched b 64).map wv).toArray 143 (0, 0)) * (pts b2 (.cells (List.replicate 8 (wv 0)).toArray 90 (0, 0)) * (pts b1 (.cells (st.list.map wv).toArray 90 (0, 0)) * H))))) 64 ⟨0, rfl, rfl, by omega, h⟩ ?_
    rintro m σ w again ⟨i, rfl, rfl, hi, h⟩ hag
    rw [pop_cons, fin_nil, o_lss]
    refine cd_dec (fun hlt => ?_) (fun hge => ?_)
    · refine mix_round h (by omega) hks (sched_length b 64) fun w h => ?_
      exact hag _ _ _ (by omega) ⟨i + 1, rfl, rfl, by omega, h⟩
    · have hi64 : i = 64 := by omega
      subst hi64
      refine lp_nat (fun m σ w => ∃ i : Nat, σ = [.int .i64 i] ∧ m = 8 - i ∧ i ≤ 8 ∧
        sat E w (pts b1 (.cells (((mix ks st b).list.take i ++ st.list.drop i).map wv).toArray 90 (0, 0)) * (pts b4 (.cells ((Go.Proofs.YtfaeklinhchidaaGreat.rounds ks (sched b 64) st 64).list.map wv).toArray 90 (0, 0)) * (pts b3 (.cells ((sched b 64).map wv).toArray 143 (0, 0)) * (pts b2 (.cells (List.replicate 8 (wv 0)).toArray 90 (0, 0)) * H))))) 8 ⟨0, rfl, rfl, by omega, ?_⟩ ?_
      · have := h.own b1
        exact this
      rintro m σ w again ⟨i, rfl, rfl, hi, h⟩ hag
      rw [pop_cons, fin_nil, o_lss]
      refine cd_dec (fun hlt => ?_) (fun hge => ?_)
      · have hlt : i < 8 := by omega
        have ix : ∀ {b : Nat} {w : World} {K : Value → World → Prop}, pvv prog (Instr.indexAt 90 (.pointer (some ⟨b, 0, none⟩)) (.int .i64 (i : Int))) w K = K (.pointer (some ⟨b, i, none⟩)) w := fun {b w K} => by
          rw [o_indexA (by omega) (by omega)]; simp
        refine dr_sl h fun w h _ => ?_
        simp only [↓opsA, opsB, if_true, if_false, ↓reduceIte, ix]
        have g1 : (((mix ks st b).list.take i ++ st.list.drop i).map wv)[i]? = some (wv (st.list.getD i 0)) := by
          rw [List.getElem?_map, take_drop_get (HSt.len _) hlt, ← List.getElem?_map]
          exact getwv' (by rw [HSt.len]; exact hlt)
        refine ld_in (b := b1) h g1 ?_
        refine ld_in (b := b4) h (getwv' (by rw [HSt.len]; exact hlt)) ?_
        rw [o_addW]
        try rw [ix]
        refine store_sl (b := b1) h rfl (by simp [HSt.len]; omega) fun w h => ?_
        try rw [o_add]
        rw [i64_of (by omega) (by omega)]
        refine hag _ _ _ (by omega) ⟨i + 1, rfl, rfl, by omega, ?_⟩
        have e : (mix ks st b).list.getD i 0 = st.list.getD i 0 + (Go.Proofs.YtfaeklinhchidaaGreat.rounds ks (sched b 64) st 64).list.getD i 0 := HSt.add_get _ _ hlt
        have e2 : (((mix ks st b).list.take i ++ st.list.drop i).map wv).set i (wv (st.list.getD i 0 + (Go.Proofs.YtfaeklinhchidaaGreat.rounds ks (sched b 64) st 64).list.getD i 0)) = ((mix ks st b).list.take (i + 1) ++ st.list.drop (i + 1)).map wv := by
          rw [← List.map_set]
          congr 1
          refine take_drop_set (HSt.len _) (HSt.len _) hlt ?_
          rw [← e]
          have hl : i < (mix ks st b).list.length := by rw [HSt.len]; exact hlt
          simp [List.getD_eq_getElem?_getD, hl]
        rw [e2] at h
        exact h
      · have hi8 : i = 8 := by omega
        subst hi8
        have e : (mix ks st b).list.take 8 ++ st.list.drop 8 = (mix ks st b).list := rfl
        rw [e] at h
        refine ld_agg (b := b1) h (by simp [HSt.len]) ?_
        refine storeN_sl (b := b2) h (aggC_90).size (vs := (mix ks st b).list.map wv) (by simp [Value.cells]) (by simp [HSt.len]) (wv_one _) (by simp) fun w h => ?_
        have h : sat E w (pts b2 (.cells ((mix ks st b).list.map wv).toArray 90 (0, 0)) * (pts b1 (.cells ((mix ks st b).list.map wv).toArray 90 (0, 0)) * (pts b4 (.cells ((Go.Proofs.YtfaeklinhchidaaGreat.rounds ks (sched b 64) st 64).list.map wv).toArray 90 (0, 0)) * (pts b3 (.cells ((sched b 64).map wv).toArray 143 (0, 0)) * H)))) := h
        exact res_agg (b := b2) h (by simp [HSt.len]) (hK _ h.drop.drop.drop.drop)
end Go.Proofs.YtfaeklinhchidaaGreat

/-
  SHA-256 of bytes, as plain functions, and what they say of each other.
-/
set_option linter.all false
set_option maxRecDepth 10000
namespace Go.Proofs.YtfaeklinhchidaaGreat
open Go Hold
def K0 : List UInt32 := [1116352408, 1899447441, 3049323471, 3921009573, 961987163, 1508970993, 2453635748, 2870763221, 3624381080, 310598401, 607225278, 1426881987, 1925078388, 2162078206, 2614888103, 3248222580, 3835390401, 4022224774, 264347078, 604807628, 770255983, 1249150122, 1555081692, 1996064986, 2554220882, 2821834349, 2952996808, 3210313671, 3336571891, 3584528711, 113926993, 338241895, 666307205, 773529912, 1294757372, 1396182291, 1695183700, 1986661051, 2177026350, 2456956037, 2730485921, 2820302411, 3259730800, 3345764771, 3516065817, 3600352804, 4094571909, 275423344, 430227734, 506948616, 659060556, 883997877, 958139571, 1322822218, 1537002063, 1747873779, 1955562222, 2024104815, 2227730452, 2361852424, 2428436474, 2756734187, 3204031479, 3329325298]
def st0 : HSt := ⟨1779033703, 3144134277, 1013904242, 2773480762, 1359893119, 2600822924, 528734635, 1541459225⟩
def fold (st : HSt) (m : List UInt8) : Nat → HSt
  | 0 => st
  | n + 1 => mix K0 (fold st m n) (m.drop (64 * n))
def lenBytes (n : Nat) : List UInt8 := (List.range 8).map fun i => UInt8.ofNat (n * 8 % 18446744073709551616 / 2 ^ (56 - 8 * i))
def padded (b : List UInt8) : List UInt8 := b ++ [128] ++ List.replicate ((119 - b.length % 64) % 64) 0 ++ lenBytes b.length
def digest4 (w : UInt32) : List UInt8 := [(w >>> UInt32.ofNat 24).toUInt8, (w >>> UInt32.ofNat 16).toUInt8, (w >>> UInt32.ofNat 8).toUInt8, w.toUInt8]
def digest (st : HSt) : List UInt8 := st.list.flatMap digest4
def sha (b : List UInt8) : List UInt8 := digest (fold st0 (padded b) ((padded b).length / 64))
theorem getD_take {l : List UInt8} {n i : Nat} (h : i < n) : (l.take n).getD i 0 = l.getD i 0 := by
  simp [List.getD_eq_getElem?_getD, List.getElem?_take, h]
theorem word_take {b : List UInt8} {i : Nat} (h : i < 16) : word (b.take 64) i = word b i := by
  unfold word
  rw [getD_take (by omega), getD_take (by omega), getD_take (by omega), getD_take (by omega)]
theorem sched_take {b : List UInt8} : ∀ n, sched (b.take 64) n = sched b n
  | 0 => rfl
  | n + 1 => by
    simp only [sched, sched_take n]
    by_cases h : n < 16
    · rw [if_pos h, if_pos h, word_take h]
    · rw [if_neg h, if_neg h]
theorem mix_take (ks : List UInt32) (st : HSt) (b : List UInt8) : mix ks st b = mix ks st (b.take 64) := by
  unfold mix; rw [sched_take]
theorem fold_congr {st : HSt} {a b : List UInt8} : ∀ {n : Nat}, a.take (64 * n) = b.take (64 * n) → fold st a n = fold st b n
  | 0, _ => rfl
  | n + 1, h => by
    have h1 : a.take (64 * n) = b.take (64 * n) := by
      have := congrArg (List.take (64 * n)) h
      rw [List.take_take, List.take_take] at this
      have e : min (64 * n) (64 * (n + 1)) = 64 * n := by omega
      rwa [e] at this
    have h2 : (a.drop (64 * n)).take 64 = (b.drop (64 * n)).take 64 := by
      have := congrArg (List.drop (64 * n)) h
      rw [List.drop_take, List.drop_take] at this
      have e : 64 * (n + 1) - 64 * n = 64 := by omega
      rwa [e] at this
    simp only [fold]
    rw [fold_congr h1, mix_take, h2, ← mix_take]
theorem fold_add (st : HSt) (m : List UInt8) (a : Nat) : ∀ k, fold (fold st m a) (m.drop (64 * a)) k = fold st m (a + k)
  | 0 => rfl
  | k + 1 => by
    rw [← Nat.add_assoc]
    simp only [fold]
    rw [fold_add st m a k, List.drop_drop, Nat.mul_add]
theorem lenBytes_length (n : Nat) : (lenBytes n).length = 8 := rfl
theorem padded_length (b : List UInt8) : (padded b).length % 64 = 0 := by
  simp [padded, lenBytes_length]; omega
theorem digest_length (st : HSt) : (digest st).length = 32 := rfl
theorem sha_length (b : List UInt8) : (sha b).length = 32 := digest_length _
end Go.Proofs.YtfaeklinhchidaaGreat

/-
  Sum: the SHA-256 of bytes.
-/
set_option linter.all false
set_option maxRecDepth 10000
namespace Go.Proofs.YtfaeklinhchidaaGreat
open Go Hold
variable {E : World0} {w : World} {H R : HP} {K : Value → World → Prop}
theorem K0_length : K0.length = 64 := rfl
theorem rounds_spec (h : sat E w H) (k : ∀ bk w', sat E w' (pts bk (.cells (K0.map wv).toArray 143 (0, 0)) * H) → K (.pointer (some ⟨bk, 0, none⟩)) w') : Calls prog 33 #[] w (Ret K) := by
  refine c33 ?_
  unfold B33
  refine pvv_of (v := .agg (K0.map wv).toArray) (fun w => by kernel_rfl) ?_
  exact box_sl h fun b1 w h => k _ _ h
theorem Rds.cutB {H : HP} {a : Option Addr} {n c : Nat} {l : List UInt8} (hb : Rds H (.slice a n c) n (l.map bv)) (hl : l.length = n) {lo : Nat} (h1 : lo ≤ n) :
    Rds H (.slice (cutA a c lo 1) (n - lo) (c - lo)) (n - lo) ((l.drop lo).map bv) := fun E w hs => by
  have := (hb E w hs).cutl (by simpa using hl) h1
  rwa [← List.map_drop] at this
theorem getIdx {l : List Value} {i : Nat} {v : Value} (h : l[i]? = some v) : l[(i : Int).toNat]? = some v := h
theorem digest_set : ∀ (st : HSt) (i : Nat) (x : UInt32), i < 8 → st.list[i]? = some x →
    (((((((digest st).map bv).take (4 * i) ++ List.replicate (32 - 4 * i) (bv 0)).set (4 * i) (bv (x >>> UInt32.ofNat 24).toUInt8)).set (4 * i + 1) (bv (x >>> UInt32.ofNat 16).toUInt8)).set (4 * i + 2) (bv (x >>> UInt32.ofNat 8).toUInt8)).set (4 * i + 3) (bv x.toUInt8)) = ((digest st).map bv).take (4 * (i + 1)) ++ List.replicate (32 - 4 * (i + 1)) (bv 0) := by
  intro st i x hi hx
  match i, hi with
  | 0, _ => cases hx; rfl
  | 1, _ => cases hx; rfl
  | 2, _ => cases hx; rfl
  | 3, _ => cases hx; rfl
  | 4, _ => cases hx; rfl
  | 5, _ => cases hx; rfl
  | 6, _ => cases hx; rfl
  | 7, _ => cases hx; rfl
  | n + 8, h => omega
theorem pad_take {b : List UInt8} {j : Nat} (h : 64 * j ≤ b.length) : (padded b).take (64 * j) = b.take (64 * j) := by
  unfold padded
  rw [List.append_assoc, List.append_assoc, List.take_append_of_le_length h]
theorem pad_drop {b : List UInt8} {j : Nat} (h : 64 * j ≤ b.length) : (padded b).drop (64 * j) = b.drop (64 * j) ++ [128] ++ List.replicate ((119 - b.length % 64) % 64) 0 ++ lenBytes b.length := by
  unfold padded
  rw [List.append_assoc, List.append_assoc, List.drop_append_of_le_length h, List.append_assoc, List.append_assoc]
theorem Sum_out {bh bo : Nat} {st : HSt} (h : sat E w (pts bh (.cells (st.list.map wv).toArray 90 (0, 0)) * (pts bo (.cells (List.replicate 32 (bv 0)).toArray 38 (0, 0)) * H)))
    (k : ∀ w', sat E w' H → K (.agg ((digest st).map bv).toArray) w') :
        ldv prog (Instr.loadAt 90 (.pointer (some ⟨bh, 0, none⟩))) w fun t_42 w =>
        lp (fun σ w again_44 => pop σ fun t_43 σ => fin σ <|
          pvv prog (binOp .lss 3 t_43 (.int .i64 8)) w fun t_45 w =>
          cd t_45 (
            pvv prog (Instr.index 90 t_42 t_43) w fun t_46 w =>
            pvv prog (binOp .mul 3 (.int .i64 4) t_43) w fun t_47 w =>
            pvv prog (binOp .mul 3 (.int .i64 4) t_43) w fun t_48 w =>
            pvv prog (binOp .add 3 t_48 (.int .i64 1)) w fun t_49 w =>
            pvv prog (binOp .mul 3 (.int .i64 4) t_43) w fun t_50 w =>
            pvv prog (binOp .add 3 t_50 (.int .i64 2)) w fun t_51 w =>
            pvv prog (binOp .mul 3 (.int .i64 4) t_43) w fun t_52 w =>
            pvv prog (binOp .add 3 t_52 (.int .i64 3)) w fun t_53 w =>
            pvv prog (binOp .shr 88 t_46 (.int .u64 24)) w fun t_54 w =>
            pvv prog (convert 88 5 t_54) w fun t_55 w =>
            pvv prog (binOp .shr 88 t_46 (.int .u64 16)) w fun t_56 w =>
            pvv prog (convert 88 5 t_56) w fun t_57 w =>
            pvv prog (binOp .shr 88 t_46 (.int .u64 8)) w fun t_58 w =>
            pvv prog (convert 88 5 t_58) w fun t_59 w =>
            pvv prog (convert 88 5 t_46) w fun t_60 w =>
            pvv prog (Instr.indexAt 38 (.pointer (some ⟨bo, 0, none⟩)) t_47) w fun t_61 w =>
            efu prog (Instr.storeAt 5 t_61 t_55) w fun u_62 w =>
            pvv prog (Instr.indexAt 38 (.pointer (some ⟨bo, 0, none⟩)) t_49) w fun t_63 w =>
            efu prog (Instr.storeAt 5 t_63 t_57) w fun u_64 w =>
            pvv prog (Instr.indexAt 38 (.pointer (some ⟨bo, 0, none⟩)) t_51) w fun t_65 w =>
            efu prog (Instr.storeAt 5 t_65 t_59) w fun u_66 w =>
            pvv prog (Instr.indexAt 38 (.pointer (some ⟨bo, 0, none⟩)) t_53) w fun t_67 w =>
            efu prog (Instr.storeAt 5 t_67 t_60) w fun u_68 w =>
            pvv prog (binOp .add 3 t_43 (.int .i64 1)) w fun t_69 w =>
            again_44 [t_69] w) <|
          ldv prog (Instr.loadAt 38 (.pointer (some ⟨bo, 0, none⟩))) w fun t_70 w =>
          efu prog (Instr.storeAt 38 (.pointer (some ⟨bo, 0, none⟩)) t_70) w fun u_71 w =>
          ∃ r_72, (do loadVar 38 (← asAddr (.pointer (some ⟨bo, 0, none⟩)))).run prog w = .ok r_72 w ∧ K r_72 w) [(.int .i64 0)] w := by
  refine ld_agg (b := bh) h (by simp [HSt.len]) ?_
  refine lp_nat (fun m σ w => ∃ i : Nat, σ = [.int .i64 i] ∧ m = 8 - i ∧ i ≤ 8 ∧
    sat E w (pts bo (.cells (((digest st).map bv).take (4 * i) ++ List.replicate (32 - 4 * i) (bv 0)).toArray 38 (0, 0)) * (pts bh (.cells (st.list.map wv).toArray 90 (0, 0)) * H))) 8 ⟨0, rfl, rfl, by omega, h.own bo⟩ ?_
  rintro m σ w again ⟨i, rfl, rfl, hi, h⟩ hag
  rw [pop_cons, fin_nil, o_lss]
  refine cd_dec (fun hlt => ?_) (fun hge => ?_)
  · have hlt : i < 8 := by omega
    have hx : st.list[i]? = some (st.list.getD i 0) := by
      have hl : i < st.list.length := by rw [HSt.len]; exact hlt
      simp [List.getD_eq_getElem?_getD, hl]
    rw [o_indexV (by simp [HSt.len]) (by omega) (getIdx (getwv' (by rw [HSt.len]; exact hlt)))]
    have e0 : IntKind.i64.wrap (4 * (i : Int)) = ((4 * i : Nat) : Int) := by rw [i64_of (by omega) (by omega)]; omega
    have e1 : IntKind.i64.wrap (((4 * i : Nat) : Int) + 1) = ((4 * i + 1 : Nat) : Int) := by rw [i64_of (by omega) (by omega)]; omega
    have e2 : IntKind.i64.wrap (((4 * i : Nat) : Int) + 2) = ((4 * i + 2 : Nat) : Int) := by rw [i64_of (by omega) (by omega)]; omega
    have e3 : IntKind.i64.wrap (((4 * i : Nat) : Int) + 3) = ((4 * i + 3 : Nat) : Int) := by rw [i64_of (by omega) (by omega)]; omega
    have ix : ∀ {j : Nat}, j < 32 → ∀ {w : World} {K : Value → World → Prop}, pvv prog (Instr.indexAt 38 (.pointer (some ⟨bo, 0, none⟩)) (.int .i64 (j : Int))) w K = K (.pointer (some ⟨bo, j, none⟩)) w := fun {j} hj {w K} => by
      rw [o_indexA (by omega) (by omega)]; simp
    simp only [e0, e1, e2, e3, ↓opsA, opsB, if_true, if_false, ↓reduceIte]
    rw [o_shrW' (by decide) (by decide), o_convWB, o_shrW' (by decide) (by decide), o_convWB, o_shrW' (by decide) (by decide), o_convWB, o_convWB]
    simp only [ix (j := 4 * i) (by omega), ix (j := 4 * i + 1) (by omega), ix (j := 4 * i + 2) (by omega), ix (j := 4 * i + 3) (by omega)]
    have hlen : ∀ q, q < 32 → q < (((digest st).map bv).take (4 * i) ++ List.replicate (32 - 4 * i) (bv 0)).length := fun q hq => by
      simp [digest_length]; omega
    refine store_sl (b := bo) h rfl (hlen _ (by omega)) fun w h => ?_
    refine store_sl (b := bo) h rfl (by rw [List.length_set]; exact hlen _ (by omega)) fun w h => ?_
    refine store_sl (b := bo) h rfl (by rw [List.length_set, List.length_set]; exact hlen _ (by omega)) fun w h => ?_
    refine store_sl (b := bo) h rfl (by rw [List.length_set, List.length_set, List.length_set]; exact hlen _ (by omega)) fun w h => ?_
    try rw [o_add]
    rw [i64_of (by omega) (by omega)]
    refine hag _ _ _ (by omega) ⟨i + 1, rfl, rfl, by omega, ?_⟩
    have e := digest_set st i _ hlt hx
    rw [← e]
    exact h
  · have hi8 : i = 8 := by omega
    subst hi8
    have h : sat E w (pts bo (.cells ((digest st).map bv).toArray 38 (0, 0)) * (pts bh (.cells (st.list.map wv).toArray 90 (0, 0)) * H)) := by
      have e : ((digest st).map bv).take (4 * 8) ++ List.replicate (32 - 4 * 8) (bv 0) = (digest st).map bv := by
        rw [List.take_of_length_le (by simp [digest_length])]; simp
      rw [e] at h; exact h
    refine ld_agg (b := bo) h (by simp [digest_length]) ?_
    refine storeN_sl (b := bo) h (aggC_38).size (vs := (digest st).map bv) (by simp [Value.cells]) (by simp [digest_length]) (bv_one _) (by simp [digest_length]) fun w h => ?_
    have h : sat E w (pts bo (.cells ((digest st).map bv).toArray 38 (0, 0)) * (pts bh (.cells (st.list.map wv).toArray 90 (0, 0)) * H)) := by
      have e : ((digest st).map bv).take 0 ++ (digest st).map bv ++ ((digest st).map bv).drop (0 + 32) = (digest st).map bv := by
        rw [List.drop_eq_nil_of_le (by simp [digest_length])]; simp
      rw [e] at h; exact h
    exact res_agg (b := bo) h (by simp [digest_length]) (k _ h.drop.drop)
theorem Sum_rest {bh bo bk : Nat} {st : HSt} {ve : Value} {m : List UInt8} (hm : m.length % 64 = 0) (hml : m.length ≤ 140737488355328)
    (h : sat E w (pts bh (.cells (st.list.map wv).toArray 90 (0, 0)) * (pts bk (.cells (K0.map wv).toArray 143 (0, 0)) * (pts bo (.cells (List.replicate 32 (bv 0)).toArray 38 (0, 0)) * H))))
    (hv : Rds H ve m.length (m.map bv))
    (k : ∀ w', sat E w' H → K (.agg ((digest (fold st m (m.length / 64))).map bv).toArray) w') :
      lp (fun σ w again_35 => pop σ fun end_34 σ => fin σ <|
        pv prog (oBi .len #[22] 3 #[false] #[end_34]) w fun t_36 w =>
        pvv prog (binOp .gtr 3 t_36 (.int .i64 0)) w fun t_37 w =>
        cd t_37 (
          ldv prog (Instr.loadAt 90 (.pointer (some ⟨bh, 0, none⟩))) w fun t_38 w =>
          Calls prog 34 #[t_38, (.pointer (some ⟨bk, 0, none⟩)), end_34] w (Ret fun t_39 w =>
          efu prog (Instr.storeAt 90 (.pointer (some ⟨bh, 0, none⟩)) t_39) w fun u_40 w =>
          pvv prog (Instr.sliceAt 22 end_34 (some (.int .i64 64)) none none) w fun t_41 w =>
          again_35 [t_41] w)) <|
        ldv prog (Instr.loadAt 90 (.pointer (some ⟨bh, 0, none⟩))) w fun t_42 w =>
        lp (fun σ w again_44 => pop σ fun t_43 σ => fin σ <|
          pvv prog (binOp .lss 3 t_43 (.int .i64 8)) w fun t_45 w =>
          cd t_45 (
            pvv prog (Instr.index 90 t_42 t_43) w fun t_46 w =>
            pvv prog (binOp .mul 3 (.int .i64 4) t_43) w fun t_47 w =>
            pvv prog (binOp .mul 3 (.int .i64 4) t_43) w fun t_48 w =>
            pvv prog (binOp .add 3 t_48 (.int .i64 1)) w fun t_49 w =>
            pvv prog (binOp .mul 3 (.int .i64 4) t_43) w fun t_50 w =>
            pvv prog (binOp .add 3 t_50 (.int .i64 2)) w fun t_51 w =>
            pvv prog (binOp .mul 3 (.int .i64 4) t_43) w fun t_52 w =>
            pvv prog (binOp .add 3 t_52 (.int .i64 3)) w fun t_53 w =>
            pvv prog (binOp .shr 88 t_46 (.int .u64 24)) w fun t_54 w =>
            pvv prog (convert 88 5 t_54) w fun t_55 w =>
            pvv prog (binOp .shr 88 t_46 (.int .u64 16)) w fun t_56 w =>
            pvv prog (convert 88 5 t_56) w fun t_57 w =>
            pvv prog (binOp .shr 88 t_46 (.int .u64 8)) w fun t_58 w =>
            pvv prog (convert 88 5 t_58) w fun t_59 w =>
            pvv prog (convert 88 5 t_46) w fun t_60 w =>
            pvv prog (Instr.indexAt 38 (.pointer (some ⟨bo, 0, none⟩)) t_47) w fun t_61 w =>
            efu prog (Instr.storeAt 5 t_61 t_55) w fun u_62 w =>
            pvv prog (Instr.indexAt 38 (.pointer (some ⟨bo, 0, none⟩)) t_49) w fun t_63 w =>
            efu prog (Instr.storeAt 5 t_63 t_57) w fun u_64 w =>
            pvv prog (Instr.indexAt 38 (.pointer (some ⟨bo, 0, none⟩)) t_51) w fun t_65 w =>
            efu prog (Instr.storeAt 5 t_65 t_59) w fun u_66 w =>
            pvv prog (Instr.indexAt 38 (.pointer (some ⟨bo, 0, none⟩)) t_53) w fun t_67 w =>
            efu prog (Instr.storeAt 5 t_67 t_60) w fun u_68 w =>
            pvv prog (binOp .add 3 t_43 (.int .i64 1)) w fun t_69 w =>
            again_44 [t_69] w) <|
          ldv prog (Instr.loadAt 38 (.pointer (some ⟨bo, 0, none⟩))) w fun t_70 w =>
          efu prog (Instr.storeAt 38 (.pointer (some ⟨bo, 0, none⟩)) t_70) w fun u_71 w =>
          ∃ r_72, (do loadVar 38 (← asAddr (.pointer (some ⟨bo, 0, none⟩)))).run prog w = .ok r_72 w ∧ K r_72 w) [(.int .i64 0)] w) [ve] w := by
  obtain ⟨a, c, rfl, hc, hv, ha⟩ := hv.shape h.drop.drop.drop
  refine lp_nat (fun q σ w => ∃ j a' c', σ = [.slice a' (m.length - 64 * j) c'] ∧ q = m.length - 64 * j ∧ 64 * j ≤ m.length ∧ Rds H (.slice a' (m.length - 64 * j) c') (m.length - 64 * j) ((m.drop (64 * j)).map bv) ∧
    sat E w (pts bh (.cells ((fold st m j).list.map wv).toArray 90 (0, 0)) * (pts bk (.cells (K0.map wv).toArray 143 (0, 0)) * (pts bo (.cells (List.replicate 32 (bv 0)).toArray 38 (0, 0)) * H)))) m.length
    ⟨0, a, c, rfl, rfl, by omega, hv, h⟩ ?_
  rintro q σ w again ⟨j, a', c', rfl, rfl, hj, hr, h⟩ hag
  simp only [↓opsA, opsB, if_true, if_false, ↓reduceIte]
  refine cd_dec (fun hlt => ?_) (fun hge => ?_)
  · refine ld_agg (b := bh) h (by simp [HSt.len]) ?_
    have hr2 : Rds (pts bh (.cells ((fold st m j).list.map wv).toArray 90 (0, 0)) * (pts bk (.cells (K0.map wv).toArray 143 (0, 0)) * (pts bo (.cells (List.replicate 32 (bv 0)).toArray 38 (0, 0)) * H))) (.slice a' (m.length - 64 * j) c') (m.drop (64 * j)).length ((m.drop (64 * j)).map bv) := by
      rw [List.length_drop]; exact hr.right.right.right
    refine mix_spec (bk := bk) h K0_length hr2 (by simp; omega) fun w h => ?_
    refine storeN_sl (b := bh) h (aggC_90).size (vs := (mix K0 (fold st m j) (m.drop (64 * j))).list.map wv) (by simp [Value.cells]) (by simp [HSt.len]) (wv_one _) (by simp [HSt.len]) fun w h => ?_
    rw [o_slice_l (by decide) (by omega)]
    refine hag (m.length - 64 * (j + 1)) _ _ (by omega) ⟨j + 1, cutA a' c' 64 1, c' - 64, ?_, rfl, by omega, ?_, ?_⟩
    · have e : m.length - 64 * j - (64 : Int).toNat = m.length - 64 * (j + 1) := by
        show m.length - 64 * j - 64 = _; omega
      rw [e]; rfl
    · have := Rds.cutB hr (by simp) (lo := 64) (by omega)
      rw [List.drop_drop] at this
      have e : m.length - 64 * j - 64 = m.length - 64 * (j + 1) := by omega
      rw [e, show 64 * j + 64 = 64 * (j + 1) by omega] at this
      exact this
    · exact h
  · have hj2 : j = m.length / 64 := by omega
    subst hj2
    have h : sat E w (pts bh (.cells ((fold st m (m.length / 64)).list.map wv).toArray 90 (0, 0)) * (pts bo (.cells (List.replicate 32 (bv 0)).toArray 38 (0, 0)) * H)) := h.lose bk
    exact Sum_out h k
theorem lenBytes_get {n i : Nat} (hi : i < 8) : (lenBytes n).take (i + 1) = (lenBytes n).take i ++ [UInt8.ofNat (n * 8 % 18446744073709551616 / 2 ^ (56 - 8 * i))] := by
  have hl : i < (lenBytes n).length := by rw [lenBytes_length]; exact hi
  rw [List.take_succ_eq_append_getElem hl]
  congr 2
  simp [lenBytes]
theorem Sum_len {bh bo bk : Nat} {st : HSt} {ve : Value} {m : List UInt8} {n N : Nat} (hN : n * 8 % 18446744073709551616 = N) (hm : (m.length + 8) % 64 = 0) (hml : m.length + 8 ≤ 140737488355328)
    (h : sat E w (osl 5 1 ve m.length (m.map bv) * (pts bh (.cells (st.list.map wv).toArray 90 (0, 0)) * (pts bk (.cells (K0.map wv).toArray 143 (0, 0)) * (pts bo (.cells (List.replicate 32 (bv 0)).toArray 38 (0, 0)) * H)))))
    (k : ∀ w', sat E w' H → K (.agg ((digest (fold st (m ++ lenBytes n) ((m ++ lenBytes n).length / 64))).map bv).toArray) w') :
    lp (fun σ w again_25 => pop σ fun end_23 σ => pop σ fun t_24 σ => fin σ <|
      pvv prog (binOp .lss 3 t_24 (.int .i64 8)) w fun t_26 w =>
      cd t_26 (
        pvv prog (binOp .mul 3 (.int .i64 8) t_24) w fun t_27 w =>
        pvv prog (binOp .sub 3 (.int .i64 56) t_27) w fun t_28 w =>
        pvv prog (binOp .shr 93 (.int .u64 (N : Int)) t_28) w fun t_29 w =>
        pvv prog (convert 93 5 t_29) w fun t_30 w =>
        efv prog (Instr.buildSlice 22 1 #[(0, t_30)]) w fun t_31 w =>
        ef prog (oBi .append #[22, 22] 22 #[false, false] #[end_23, t_31]) w fun t_32 w =>
        pvv prog (binOp .add 3 t_24 (.int .i64 1)) w fun t_33 w =>
        again_25 [t_32, t_33] w) <|
      lp (fun σ w again_35 => pop σ fun end_34 σ => fin σ <|
        pv prog (oBi .len #[22] 3 #[false] #[end_34]) w fun t_36 w =>
        pvv prog (binOp .gtr 3 t_36 (.int .i64 0)) w fun t_37 w =>
        cd t_37 (
          ldv prog (Instr.loadAt 90 (.pointer (some ⟨bh, 0, none⟩))) w fun t_38 w =>
          Calls prog 34 #[t_38, (.pointer (some ⟨bk, 0, none⟩)), end_34] w (Ret fun t_39 w =>
          efu prog (Instr.storeAt 90 (.pointer (some ⟨bh, 0, none⟩)) t_39) w fun u_40 w =>
          pvv prog (Instr.sliceAt 22 end_34 (some (.int .i64 64)) none none) w fun t_41 w =>
          again_35 [t_41] w)) <|
        ldv prog (Instr.loadAt 90 (.pointer (some ⟨bh, 0, none⟩))) w fun t_42 w =>
        lp (fun σ w again_44 => pop σ fun t_43 σ => fin σ <|
          pvv prog (binOp .lss 3 t_43 (.int .i64 8)) w fun t_45 w =>
          cd t_45 (
            pvv prog (Instr.index 90 t_42 t_43) w fun t_46 w =>
            pvv prog (binOp .mul 3 (.int .i64 4) t_43) w fun t_47 w =>
            pvv prog (binOp .mul 3 (.int .i64 4) t_43) w fun t_48 w =>
            pvv prog (binOp .add 3 t_48 (.int .i64 1)) w fun t_49 w =>
            pvv prog (binOp .mul 3 (.int .i64 4) t_43) w fun t_50 w =>
            pvv prog (binOp .add 3 t_50 (.int .i64 2)) w fun t_51 w =>
            pvv prog (binOp .mul 3 (.int .i64 4) t_43) w fun t_52 w =>
            pvv prog (binOp .add 3 t_52 (.int .i64 3)) w fun t_53 w =>
            pvv prog (binOp .shr 88 t_46 (.int .u64 24)) w fun t_54 w =>
            pvv prog (convert 88 5 t_54) w fun t_55 w =>
            pvv prog (binOp .shr 88 t_46 (.int .u64 16)) w fun t_56 w =>
            pvv prog (convert 88 5 t_56) w fun t_57 w =>
            pvv prog (binOp .shr 88 t_46 (.int .u64 8)) w fun t_58 w =>
            pvv prog (convert 88 5 t_58) w fun t_59 w =>
            pvv prog (convert 88 5 t_46) w fun t_60 w =>
            pvv prog (Instr.indexAt 38 (.pointer (some ⟨bo, 0, none⟩)) t_47) w fun t_61 w =>
            efu prog (Instr.storeAt 5 t_61 t_55) w fun u_62 w =>
            pvv prog (Instr.indexAt 38 (.pointer (some ⟨bo, 0, none⟩)) t_49) w fun t_63 w =>
            efu prog (Instr.storeAt 5 t_63 t_57) w fun u_64 w =>
            pvv prog (Instr.indexAt 38 (.pointer (some ⟨bo, 0, none⟩)) t_51) w fun t_65 w =>
            efu prog (Instr.storeAt 5 t_65 t_59) w fun u_66 w =>
            pvv prog (Instr.indexAt 38 (.pointer (some ⟨bo, 0, none⟩)) t_53) w fun t_67 w =>
            efu prog (Instr.storeAt 5 t_67 t_60) w fun u_68 w =>
            pvv prog (binOp .add 3 t_43 (.int .i64 1)) w fun t_69 w =>
            again_44 [t_69] w) <|
          ldv prog (Instr.loadAt 38 (.pointer (some ⟨bo, 0, none⟩))) w fun t_70 w =>
          efu prog (Instr.storeAt 38 (.pointer (some ⟨bo, 0, none⟩)) t_70) w fun u_71 w =>
          ∃ r_72, (do loadVar 38 (← asAddr (.pointer (some ⟨bo, 0, none⟩)))).run prog w = .ok r_72 w ∧ K r_72 w) [(.int .i64 0)] w) [end_23] w) [ve, .int .i64 0] w := by
  refine lp_nat (fun q σ w => ∃ (i : Nat) (ve : Value), σ = [ve, .int .i64 i] ∧ q = 8 - i ∧ i ≤ 8 ∧
    sat E w (osl 5 1 ve (m.length + i) ((m ++ (lenBytes n).take i).map bv) * (pts bh (.cells (st.list.map wv).toArray 90 (0, 0)) * (pts bk (.cells (K0.map wv).toArray 143 (0, 0)) * (pts bo (.cells (List.replicate 32 (bv 0)).toArray 38 (0, 0)) * H))))) 8
    ⟨0, ve, rfl, rfl, by omega, by simpa using h⟩ ?_
  rintro q σ w again ⟨i, ve, rfl, rfl, hi, h⟩ hag
  simp only [↓opsA, opsB, if_true, if_false, ↓reduceIte]
  refine cd_dec (fun hlt => ?_) (fun hge => ?_)
  · have hlt : i < 8 := by omega
    have e0 : IntKind.i64.wrap (8 * (i : Int)) = ((8 * i : Nat) : Int) := by rw [i64_of (by omega) (by omega)]; omega
    have e1 : IntKind.i64.wrap (56 - ((8 * i : Nat) : Int)) = ((56 - 8 * i : Nat) : Int) := by rw [i64_of (by omega) (by omega)]; omega
    rw [e0, e1, o_shr (by simp [IntKind.bits]; omega), o_convInt]
    have e2 : Value.int .u8 (IntKind.u8.wrap ((N / 2 ^ (56 - 8 * i) : Nat) : Int)) = bv (UInt8.ofNat (N / 2 ^ (56 - 8 * i))) := by
      unfold bv; rw [IntKind.wrap_u8]; congr 1
    rw [e2]
    refine push_sl h rfl rfl (by omega) (by omega) fun v2 w h => ?_
    try rw [o_add]
    rw [i64_of (by omega) (by omega)]
    refine hag (8 - (i + 1)) _ _ (by omega) ⟨i + 1, v2, rfl, rfl, by omega, ?_⟩
    rw [lenBytes_get hlt, hN, ← List.append_assoc, List.map_append]
    exact h
  · have hi8 : i = 8 := by omega
    subst hi8
    have e : (lenBytes n).take 8 = lenBytes n := List.take_of_length_le (by rw [lenBytes_length]; omega)
    rw [e] at h
    have hfr := osl_freeze h
    have hfr : sat E w (pts bh (.cells (st.list.map wv).toArray 90 (0, 0)) * (pts bk (.cells (K0.map wv).toArray 143 (0, 0)) * (pts bo (.cells (List.replicate 32 (bv 0)).toArray 38 (0, 0)) * (pers (immS ve (m.length + 8) ((m ++ lenBytes n).map bv)) * H)))) := hfr.perm (by ac_rfl)
    refine Sum_rest (m := m ++ lenBytes n) (by rw [List.length_append, lenBytes_length]; exact hm) (by rw [List.length_append, lenBytes_length]; exact hml) hfr ?_ fun w h => k _ h.drop
    rw [List.length_append, lenBytes_length]
    exact Rds.pers.left
theorem Sum_spec (h : sat E w H) {v : Value} {b : List UInt8} (hb : Rds H v b.length (b.map bv)) (hl : b.length ≤ 140737488355000)
    (k : ∀ w', sat E w' H → K (.agg ((sha b).map bv).toArray) w') : Calls prog 10 #[v] w (Ret K) := by
  refine c10 ?_
  unfold B10
  refine alloc_sl h fun bo w h => ?_
  have h : sat E w (pts bo (.cells (List.replicate 32 (bv 0)).toArray 38 (0, 0)) * H) := h
  refine pvv_of (v := .agg (st0.list.map wv).toArray) (fun w => by kernel_rfl) ?_
  refine alloc_sl h fun bh w h => ?_
  have h : sat E w (pts bh (.cells (List.replicate 8 (wv 0)).toArray 90 (0, 0)) * (pts bo (.cells (List.replicate 32 (bv 0)).toArray 38 (0, 0)) * H)) := h
  refine storeN_sl (b := bh) h (aggC_90).size (vs := st0.list.map wv) (by simp [Value.cells]) (by simp [HSt.len]) (wv_one _) (by simp) fun w h => ?_
  have h : sat E w (pts bh (.cells (st0.list.map wv).toArray 90 (0, 0)) * (pts bo (.cells (List.replicate 32 (bv 0)).toArray 38 (0, 0)) * H)) := h
  refine rounds_spec h fun bk w h => ?_
  obtain ⟨a, c, rfl, hc, hb, ha⟩ := hb.shape (h.drop.drop.drop)
  simp only [↓opsA, opsB, if_true, if_false, ↓reduceIte]
  have ew : IntKind.u64.wrap (b.length : Int) = (b.length : Int) := by rw [IntKind.wrap_u64]; omega
  rw [ew]
  rw [show (Value.int .u64 3) = Value.int .u64 ((3 : Nat) : Int) from rfl, o_shl (by decide)]
  have en : IntKind.u64.wrap ((b.length : Int) * 2 ^ 3) = ((b.length * 8 % 18446744073709551616 : Nat) : Int) := by rw [IntKind.wrap_u64]; omega
  rw [en]
  generalize hN : b.length * 8 % 18446744073709551616 = N
  refine lp_nat (fun m σ w => ∃ j a' c', σ = [.slice a' (b.length - 64 * j) c'] ∧ m = b.length - 64 * j ∧ 64 * j ≤ b.length ∧ Rds H (.slice a' (b.length - 64 * j) c') (b.length - 64 * j) ((b.drop (64 * j)).map bv) ∧
    sat E w (pts bh (.cells ((fold st0 b j).list.map wv).toArray 90 (0, 0)) * (pts bk (.cells (K0.map wv).toArray 143 (0, 0)) * (pts bo (.cells (List.replicate 32 (bv 0)).toArray 38 (0, 0)) * H)))) b.length
    ⟨0, a, c, rfl, rfl, by omega, hb, h.perm (by rw [star_left_comm]; rfl)⟩ ?_
  rintro m σ w again ⟨j, a', c', rfl, rfl, hj, hr, h⟩ hag
  simp only [↓opsA, opsB, if_true, if_false, ↓reduceIte]
  refine cd_dec (fun hlt => ?_) (fun hge => ?_)
  · refine ld_agg (b := bh) h (by simp [HSt.len]) ?_
    have hr2 : Rds (pts bh (.cells ((fold st0 b j).list.map wv).toArray 90 (0, 0)) * (pts bk (.cells (K0.map wv).toArray 143 (0, 0)) * (pts bo (.cells (List.replicate 32 (bv 0)).toArray 38 (0, 0)) * H))) (.slice a' (b.length - 64 * j) c') (b.drop (64 * j)).length ((b.drop (64 * j)).map bv) := by
      rw [List.length_drop]; exact hr.right.right.right
    refine mix_spec (bk := bk) h K0_length hr2 (by simp; omega) fun w h => ?_
    refine storeN_sl (b := bh) h (aggC_90).size (vs := (mix K0 (fold st0 b j) (b.drop (64 * j))).list.map wv) (by simp [Value.cells]) (by simp [HSt.len]) (wv_one _) (by simp [HSt.len]) fun w h => ?_
    rw [o_slice_l (by decide) (by omega)]
    refine hag (b.length - 64 * (j + 1)) _ _ (by omega) ⟨j + 1, cutA a' c' 64 1, c' - 64, ?_, rfl, by omega, ?_, ?_⟩
    · have e : b.length - 64 * j - (64 : Int).toNat = b.length - 64 * (j + 1) := by
        show b.length - 64 * j - 64 = _; omega
      rw [e]; rfl
    · have := Rds.cutB hr (by simp) (lo := 64) (by omega)
      rw [List.drop_drop] at this
      have e : b.length - 64 * j - 64 = b.length - 64 * (j + 1) := by omega
      rw [e, show 64 * j + 64 = 64 * (j + 1) by omega] at this
      exact this
    · exact h
  · have hlt : b.length - 64 * j < 64 := by omega
    have hr2 : Rds (pts bh (.cells ((fold st0 b j).list.map wv).toArray 90 (0, 0)) * (pts bk (.cells (K0.map wv).toArray 143 (0, 0)) * (pts bo (.cells (List.replicate 32 (bv 0)).toArray 38 (0, 0)) * H))) (.slice a' (b.length - 64 * j) c') (b.drop (64 * j)).length ((b.drop (64 * j)).map bv) := by
      rw [List.length_drop]; exact hr.right.right.right
    refine HClone_spec h hr2 (by simp; omega) fun v1 w h => ?_
    refine push_sl h rfl rfl (by simp; omega) (by simp; omega) fun v2 w h => ?_
    have hlen : (b.drop (64 * j)).length = b.length - 64 * j := by simp
    rw [i64_of (by omega) (by omega), o_rem (by decide)]
    have ez : ((119 : Int) - ((b.length - 64 * j : Nat) : Int)).tmod 64 = (((119 - b.length % 64) % 64 : Nat) : Int) := by
      rw [Int.tmod_eq_emod_of_nonneg (by omega)]
      omega
    rw [ez]
    refine append_noughts h rfl (by rw [hlen]; omega) (by rw [hlen]; omega) fun v3 w h => ?_
    have em : (b.drop (64 * j)).map bv ++ [Value.int .u8 128] ++ List.replicate ((119 - b.length % 64) % 64) (Value.int .u8 0) = (b.drop (64 * j) ++ [128] ++ List.replicate ((119 - b.length % 64) % 64) 0).map bv := by
      simp [bv]
    rw [em] at h
    refine Sum_len (n := b.length) (m := b.drop (64 * j) ++ [128] ++ List.replicate ((119 - b.length % 64) % 64) 0) hN (by simp; omega) (by simp; omega) (by
      have el : (b.drop (64 * j) ++ [128] ++ List.replicate ((119 - b.length % 64) % 64) 0).length = (b.drop (64 * j)).length + 1 + (119 - b.length % 64) % 64 := by simp; omega
      rw [el]; exact h) fun w h => ?_
    have e1 := pad_drop hj
    have e2 : fold st0 b j = fold st0 (padded b) j := fold_congr (pad_take hj).symm
    rw [← e1, e2, fold_add]
    have e3 : j + ((padded b).drop (64 * j)).length / 64 = (padded b).length / 64 := by
      have h1 := padded_length b
      have h2 : b.length ≤ (padded b).length := by simp [padded]
      rw [List.length_drop]
      omega
    rw [e3]
    exact k _ h
end Go.Proofs.YtfaeklinhchidaaGreat

/-
  The reference's SHA-256: words and rounds.
-/
set_option linter.all false
set_option maxRecDepth 10000
namespace Go.Proofs.YtfaeklinhchidaaGreat
open Go Hold
variable {E : World0} {w : World} {H R : HP} {K : Value → World → Prop}
def acc (b : List UInt8) (i : Nat) : Nat → UInt32
  | 0 => 0
  | j + 1 => (acc b i j <<< UInt32.ofNat 8) ||| (b.getD (4 * i + j) 0).toUInt32
end Go.Proofs.YtfaeklinhchidaaGreat

/-
  The reference's SHA-256, whole.
-/
set_option linter.all false
set_option maxRecDepth 10000
namespace Go.Proofs.YtfaeklinhchidaaGreat
open Go Hold
variable {E : World0} {w : World} {H R : HP} {K : Value → World → Prop}
end Go.Proofs.YtfaeklinhchidaaGreat

/-
  Tags: keys filled to a block, the code's and the reference's; links of a chain; hashes compared.
-/
set_option linter.all false
set_option maxRecDepth 10000
namespace Go.Proofs.YtfaeklinhchidaaGreat
open Go Hold
variable {E : World0} {w : World} {H R : HP} {K : Value → World → Prop}
def key0 (key : List UInt8) : List UInt8 := if 64 < key.length then sha key else key
def filled (key : List UInt8) : List UInt8 := key0 key ++ List.replicate (64 - (key0 key).length) 0
theorem take_get {l : List UInt8} {i : Nat} (h : i < l.length) : l.take (i + 1) = l.take i ++ [l.getD i 0] := by
  rw [List.take_succ_eq_append_getElem h]
  simp [List.getD_eq_getElem?_getD, h]
end Go.Proofs.YtfaeklinhchidaaGreat

/-
  Hashes compared.
-/
set_option linter.all false
set_option maxRecDepth 10000
namespace Go.Proofs.YtfaeklinhchidaaGreat
open Go Hold
variable {E : World0} {w : World} {H R : HP} {K : Value → World → Prop}
theorem or_xor_zero {d x y : UInt8} : (d ||| (x ^^^ y)) = 0 ↔ d = 0 ∧ x = y := by
  rw [UInt8.or_eq_zero_iff, UInt8.xor_eq_zero_iff]
theorem Same_spec (h : sat E w H) {a b : List UInt8} (ha : a.length = 32) (hb : b.length = 32) (k : ∀ w', sat E w' H → K (.bool (decide (a = b))) w') : Calls prog 12 #[.agg (a.map bv).toArray, .agg (b.map bv).toArray] w (Ret K) := by
  refine c12 ?_
  unfold B12
  refine box_sl h fun b1 w h => ?_
  refine box_sl h fun b2 w h => ?_
  have h : sat E w (pts b2 (.cells (b.map bv).toArray 38 (0, 0)) * (pts b1 (.cells (a.map bv).toArray 38 (0, 0)) * H)) := h
  refine lp_nat (fun q σ w => ∃ (i : Nat) (d : UInt8), σ = [bv d, .int .i64 i] ∧ q = 32 - i ∧ i ≤ 32 ∧ (d = 0 ↔ a.take i = b.take i) ∧ sat E w (pts b2 (.cells (b.map bv).toArray 38 (0, 0)) * (pts b1 (.cells (a.map bv).toArray 38 (0, 0)) * H))) 32
    ⟨0, 0, rfl, rfl, by omega, by simp, h⟩ ?_
  clear h
  rintro q σ w again ⟨i, d, rfl, rfl, hi, hd, h⟩ hag
  rw [pop_cons, pop_cons, fin_nil, o_lss]
  refine cd_dec (fun hlt => ?_) (fun hge => ?_)
  · refine dr_sl h fun w h _ => ?_
    rw [o_indexA (by omega) (by omega), o_indexA (by omega) (by omega)]
    simp only [o_bind]
    refine ld_in (b := b1) (o := 0 + (i : Int).toNat) (v := bv (a.getD i 0)) h (by rw [Nat.zero_add]; exact getbv (by rw [Int.toNat_natCast]; omega)) ?_
    refine ld_in (b := b2) (o := 0 + (i : Int).toNat) (v := bv (b.getD i 0)) h (by rw [Nat.zero_add]; exact getbv (by rw [Int.toNat_natCast]; omega)) ?_
    rw [o_xorB, o_orB, o_add, i64_of (by omega) (by omega)]
    refine hag (32 - (i + 1)) _ _ (by omega) ⟨i + 1, _, rfl, rfl, by omega, ?_, h⟩
    rw [or_xor_zero, hd, take_get (show i < a.length by omega), take_get (show i < b.length by omega)]
    constructor
    · rintro ⟨h1, h2⟩; rw [h1, h2]
    · intro h1
      obtain ⟨h2, h3⟩ := List.append_inj h1 (by simp; omega)
      exact ⟨h2, by simpa using h3⟩
  · have hi2 : i = 32 := by omega
    subst hi2
    rw [List.take_of_length_le (by omega), List.take_of_length_le (by omega)] at hd
    rw [show bv d = Value.int .u8 d.toNat from rfl, o_eqInt]
    have e : decide ((d.toNat : Int) = 0) = decide (a = b) := by
      rw [decide_eq_decide, ← hd]
      constructor
      · intro h0; exact UInt8.toNat_inj.1 (by simpa using h0)
      · rintro rfl; rfl
    rw [e]
    exact k _ h.drop.drop
end Go.Proofs.YtfaeklinhchidaaGreat

/-
  A tree that is at most two pages high; a key is put. No program in sight.
-/
set_option linter.all false
set_option maxRecDepth 100000
namespace Go.Proofs.YtfaeklinhchidaaGreat
open Go Hold
structure Lf where
  low : Bs
  pg : Nat
  es : List En
def Lf.en (x : Lf) : En := ⟨x.low, [], x.pg⟩
structure Ord (ls : List Lf) : Prop where
  s1 : ls.Pairwise fun a b => lexB a.low b.low = true
  s2 : ∀ x ∈ ls, ∀ e ∈ x.es, lexB e.k x.low = false
  s3 : ls.Pairwise fun a b => ∀ e ∈ a.es, lexB e.k b.low = true
structure Two (U : Uz) (s : St) (ls : List Lf) : Prop where
  r : s.cc s.root = .node ⟨false, ls.map Lf.en⟩
  c : ∀ x ∈ ls, s.cc x.pg = .node ⟨true, x.es⟩
  n : 2 ≤ ls.length
  l : ∀ x ∈ ls, U.lo ≤ x.es.length ∧ x.es.length ≤ U.cap
  h : ∀ x, ls.head? = some x → x.low = []
  o : Ord ls
  w : ∀ x ∈ ls, x.low.length ≤ U.kl
structure TInv (U : Uz) (N : Nat) (s : St) (kvs : List En) (fr used : List Nat) : Prop where
  ok : ∀ p, p < N → (s.cc p).Ok
  srt : Srt kvs
  en : ∀ e ∈ kvs, EnU U e
  f : FrOk s used fr
  fN : s.fresh ≤ N
  sh : (s.root = 0 ∧ kvs = [] ∧ used = []) ∨ (s.root ≠ 0 ∧ s.cc s.root = .node ⟨true, kvs⟩ ∧ kvs.length ≤ U.cap ∧ used = [s.root]) ∨ (∃ ls, Two U s ls ∧ used = s.root :: ls.map (·.pg) ∧ kvs = ls.flatMap (·.es))
theorem upd_at {f : Nat → PgC} {p : Nat} {x : PgC} : upd f p x p = x := by unfold upd; rw [if_pos rfl]
theorem upd_ne {f : Nat → PgC} {p q : Nat} {x : PgC} (h : q ≠ p) : upd f p x q = f q := by unfold upd; rw [if_neg h]
theorem upd_ok {N : Nat} {f : Nat → PgC} {p : Nat} {x : PgC} (h : ∀ p, p < N → (f p).Ok) (hx : x.Ok) : ∀ q, q < N → (upd f p x q).Ok := fun q hq => by
  by_cases e : q = p
  · rw [e, upd_at]; exact hx
  · rw [upd_ne e]; exact h q hq
/-- The order of leaves, one of which has become others. -/
theorem ord_replace {L1 L2 Ns : List Lf} {x : Lf} (h : Ord (L1 ++ x :: L2)) (h1 : Ord Ns) (h2 : ∀ y ∈ Ns, y.low = x.low ∨ lexB x.low y.low = true) (h3 : ∀ y ∈ Ns, ∀ b ∈ L2, lexB y.low b.low = true ∧ ∀ e ∈ y.es, lexB e.k b.low = true) : Ord (L1 ++ Ns ++ L2) := by
  obtain ⟨a1, a2, a3⟩ := h
  rw [List.pairwise_append, List.pairwise_cons] at a1 a3
  obtain ⟨b1, ⟨b2, b3⟩, b4⟩ := a1
  obtain ⟨c1, ⟨c2, c3⟩, c4⟩ := a3
  have up : ∀ a ∈ L1, ∀ y ∈ Ns, lexB a.low y.low = true ∧ ∀ e ∈ a.es, lexB e.k y.low = true := fun a ha y hy => by
    have e1 := b4 a ha x (by simp)
    have e2 := c4 a ha x (by simp)
    rcases h2 y hy with e | e
    · rw [e]; exact ⟨e1, e2⟩
    · exact ⟨lexB_trans _ _ _ e1 e, fun en hen => lexB_trans _ _ _ (e2 en hen) e⟩
  refine ⟨?_, ?_, ?_⟩
  · rw [List.append_assoc, List.pairwise_append, List.pairwise_append]
    refine ⟨b1, ⟨h1.s1, b3, fun y hy b hb => (h3 y hy b hb).1⟩, fun a ha b hb => ?_⟩
    rcases List.mem_append.1 hb with hb | hb
    · exact (up a ha b hb).1
    · exact b4 a ha b (List.mem_cons_of_mem _ hb)
  · intro y hy e he
    rcases List.mem_append.1 hy with hy | hy
    · rcases List.mem_append.1 hy with hy | hy
      · exact a2 y (by simp [hy]) e he
      · exact h1.s2 y hy e he
    · exact a2 y (by simp [hy]) e he
  · rw [List.append_assoc, List.pairwise_append, List.pairwise_append]
    refine ⟨c1, ⟨h1.s3, c3, fun y hy b hb => (h3 y hy b hb).2⟩, fun a ha b hb => ?_⟩
    rcases List.mem_append.1 hb with hb | hb
    · exact (up a ha b hb).2
    · exact c4 a ha b (List.mem_cons_of_mem _ hb)
theorem inner_ok {U : Uz} {ls : List Lf} (h1 : ls.Pairwise fun a b => lexB a.low b.low = true) (hw : ∀ x ∈ ls, x.low.length ≤ U.kl) (hp : ∀ x ∈ ls, x.pg < 65536) (hb : ls.length * (U.kl + 3) ≤ 253) : NdOk ⟨false, ls.map Lf.en⟩ := by
  have hk := U.k1
  refine ⟨fun e hm => ?_, ?_, ?_⟩
  · obtain ⟨x, hx, rfl⟩ := List.mem_map.1 hm
    have := hw x hx
    exact ⟨by show x.low.length ≤ 255; omega, by show ([] : Bs).length ≤ 255; simp, hp x hx, fun _ => rfl, fun h => Bool.noConfusion h⟩
  · unfold Srt
    rw [List.pairwise_map]
    exact h1
  · have : ((ls.map Lf.en).map (⟨false, ls.map Lf.en⟩ : Nd).one).sum ≤ (ls.map Lf.en).length * (U.kl + 3) := by
      have key : ∀ (l : List En) (n : Nd), n.leaf = false → (∀ e ∈ l, e.k.length ≤ U.kl) → (l.map n.one).sum ≤ l.length * (U.kl + 3) := by
        intro l n hn
        induction l with
        | nil => intro _; simp
        | cons e l ih =>
          intro h
          have := ih fun x hx => h x (List.mem_cons_of_mem _ hx)
          have he := h e (by simp)
          have ho : n.one e = e.k.length + 3 := by unfold Nd.one; rw [hn]; rfl
          rw [List.map_cons, List.sum_cons, ho, List.length_cons, Nat.add_mul]; omega
      refine key _ _ rfl fun e hm => ?_
      obtain ⟨x, hx, rfl⟩ := List.mem_map.1 hm
      exact hw x hx
    rw [List.length_map] at this
    exact Nat.le_trans this hb
theorem readS_eq {N : Nat} {s : St} {p : Nat} {n : Nd} (hp : p < N) (h : s.cc p = .node n) : readS N s p = some n := by
  unfold readS; rw [if_pos hp, h]
theorem drop_stay {N : Nat} {s : St} {n : Nd} (h : readS N s s.root = some n) (hn : n.leaf = true ∨ n.l.length ≠ 1) : dropS N 3 s = some s := by
  unfold dropS
  rw [h]
  show (match n.leaf, n.l with
    | false, [e] => (do
      let s ← giveS N s s.root
      dropS N 2 { s with root := e.pg } : Option St)
    | _, _ => pure s) = some s
  split
  · rename_i e h1 h2
    rcases hn with hn | hn
    · rw [hn] at h1; cases h1
    · rw [h2] at hn; simp at hn
  · rfl
theorem putF_eq {key val : Bs} {es : List En} : putF key val ⟨true, es⟩ = ⟨true, insL key val es⟩ := by
  unfold insL putF
  split <;> rfl
structure MendEasy (M : Nat → St → Nd → Nat → Option (Nd × St)) : Prop where
  a : ∀ {N : Nat} {s : St} {n : Nd} {i : Nat}, n.l.length < 2 → M N s n i = some (n, s)
  b : ∀ {N : Nat} {s : St} {n : Nd} {i : Nat} {c : En} {ch : Nd}, 2 ≤ n.l.length → n.l[i]? = some c → readS N s c.pg = some ch → ch.poor = false → M N s n i = some (n, s)
theorem mendE_easy : MendEasy mendE := by
  refine ⟨fun h => ?_, fun h1 h2 h3 h4 => ?_⟩
  · unfold mendE; rw [if_pos h]
  · unfold mendE
    rw [if_neg (by omega), h2]
    simp only [Option.bind_eq_bind, Option.bind_some, h3, h4, Bool.false_eq_true, if_false]
theorem finS_eq {N : Nat} {s : St} (h1 : s.root < 65536) (h2 : s.free < 65536) (h3 : s.fresh < 65536) (h4 : s.w < 100) (hN : 0 < N) : finS N s = some { s with w := s.w + 1, cc := upd s.cc 0 (.head s.root s.free s.fresh) } := by
  unfold finS
  rw [if_pos ⟨h1, h2, h3, h4⟩, putS_eq (y := .head s.root s.free s.fresh) hN trivial]
theorem Two.fin {U : Uz} {s : St} {ls : List Lf} {w : Nat} {y : PgC} (h : Two U s ls) (hr : s.root ≠ 0) (hp : ∀ x ∈ ls, x.pg ≠ 0) : Two U { s with w := w, cc := upd s.cc 0 y } ls :=
  ⟨by show upd s.cc 0 y s.root = _; rw [upd_ne hr]; exact h.r, fun x hx => by show upd s.cc 0 y x.pg = _; rw [upd_ne (hp x hx)]; exact h.c x hx, h.n, h.l, h.h, h.o, h.w⟩
theorem TInv.fin {U : Uz} {N : Nat} {s : St} {kvs : List En} {fr used : List Nat} (h : TInv U N s kvs fr used) {w : Nat} {y : PgC} (hy : y.Ok) : TInv U N { s with w := w, cc := upd s.cc 0 y } kvs fr used := by
  have hu : ∀ p ∈ used, p ≠ 0 := fun p hp => by have := (h.f.m p (List.mem_append_left _ hp)).1; omega
  refine ⟨upd_ok h.ok hy, h.srt, h.en, h.f.put h.f.not0, h.fN, ?_⟩
  rcases h.sh with ⟨a, b, c⟩ | ⟨a, b, c, d⟩ | ⟨ls, t, hus, hk⟩
  · exact .inl ⟨a, b, c⟩
  · exact .inr (.inl ⟨a, by show upd s.cc 0 y s.root = _; rw [upd_ne a]; exact b, c, d⟩)
  · refine .inr (.inr ⟨ls, t.fin (hu _ (by rw [hus]; simp)) (fun x hx => hu _ ?_), hus, hk⟩)
    rw [hus]; exact List.mem_cons_of_mem _ (List.mem_map_of_mem hx)
theorem free_lt {N : Nat} {s : St} {used fr : List Nat} (h : FrOk s used fr) (hN : s.fresh ≤ N) (hN2 : 1 ≤ N) : s.free < N := by
  cases fr with
  | nil => have : s.free = 0 := h.c; omega
  | cons p l =>
    have h1 : s.free = p := h.c.1
    have := (h.m p (by simp)).2
    omega
end Go.Proofs.YtfaeklinhchidaaGreat

/-
  A key is put into a tree that is at most two pages high. No program in sight.
-/
set_option linter.all false
set_option maxRecDepth 100000
namespace Go.Proofs.YtfaeklinhchidaaGreat
open Go Hold
theorem ins_enu {U : Uz} {key val : Bs} {es : List En} (hs : Srt es) (he : ∀ e ∈ es, EnU U e) (hk : key.length = U.kl) (hv : val.length = U.vl) : ∀ e ∈ insL key val es, EnU U e := fun e hm => by
  rcases ins_mem hs hm with rfl | hm
  · exact ⟨hk, hv, rfl⟩
  · exact he e hm
theorem srt_parts {es : List En} {i : Nat} (h : Srt es) : Srt (es.take i) ∧ Srt (es.drop i) ∧ ∀ a ∈ es.take i, ∀ b ∈ es.drop i, lexB a.k b.k = true := by
  have := h
  rw [← List.take_append_drop i es] at this
  exact List.pairwise_append.1 this
theorem head_le {es : List En} {e5 : En} {i : Nat} (h : Srt es) (h5 : (es.drop i).head? = some e5) : (∀ a ∈ es.take i, lexB a.k e5.k = true) ∧ ∀ b ∈ es.drop i, lexB b.k e5.k = false := by
  obtain ⟨_, h2, h3⟩ := srt_parts (i := i) h
  have hm : e5 ∈ es.drop i := List.mem_of_mem_head? h5
  refine ⟨fun a ha => h3 a ha e5 hm, fun b hb => ?_⟩
  cases hd : es.drop i with
  | nil => rw [hd] at hb; simp at hb
  | cons y l =>
    rw [hd] at h5 h2 hb
    cases h5
    rcases List.mem_cons.1 hb with rfl | hb
    · exact lexB_irrefl _
    · exact lexB_asym ((List.pairwise_cons.1 h2).1 b hb)
/-- A root that is a leaf. -/
theorem put_leaf_root {M : Nat → St → Nd → Nat → Option (Nd × St)} {U : Uz} {N : Nat} {s : St} {kvs : List En} {fr : List Nat} {key val : Bs} (hok : ∀ p, p < N → (s.cc p).Ok) (hsr : Srt kvs) (hen : ∀ e ∈ kvs, EnU U e) (hf : FrOk s [s.root] fr) (hr : s.root ≠ 0) (hc : s.cc s.root = .node ⟨true, kvs⟩) (hl : kvs.length ≤ U.cap)
    (hw : s.w ≤ 10) (hk : key.length = U.kl) (hv : val.length = U.vl) (hN : s.fresh + 2 < N) (hN2 : N ≤ 60000) (hT : 2 * (U.kl + 3) ≤ 253) :
    ∃ s' fr' used', ((atS M N (putF key val) key 3 s s.root []).bind fun q => (growS N q.1 q.2).bind fun s3 => (dropS N 3 s3).bind fun s4 => finS N s4) = some s' ∧ TInv U N s' (insL key val kvs) fr' used' ∧ s'.fresh ≤ s.fresh + 2 ∧ s'.root ≠ 0 ∧ (fr = [] → fr' = []) := by
  have hl1 := U.l1; have hl2 := U.l2; have hl3 := U.l3
  have hrN : s.root < N := by have := (hf.m s.root (by simp)).2; omega
  have hes := ins_srt (key := key) (val := val) hsr
  have hee := ins_enu hsr hen hk hv
  obtain ⟨n1, n2, n3⟩ := ins_len (key := key) (val := val) hsr
  have hat : atS M N (putF key val) key 3 s s.root [] = writeS N s s.root [] ⟨true, insL key val kvs⟩ := by
    unfold atS
    rw [readS_eq hrN hc]
    simp only [Option.bind_eq_bind, Option.bind_some, if_true]
    rw [putF_eq]
  rw [hat]
  by_cases hcap : (insL key val kvs).length ≤ U.cap
  · rw [leaf_one hee hes hcap hrN]
    simp only [Option.bind_some]
    have hg : growS N [⟨[], [], s.root⟩] { s with w := s.w + 1, cc := upd s.cc s.root (.node ⟨true, insL key val kvs⟩) } = some { s with w := s.w + 1, cc := upd s.cc s.root (.node ⟨true, insL key val kvs⟩) } := by
      unfold growS; rw [if_neg (by simp)]
    rw [hg]
    simp only [Option.bind_some]
    rw [drop_stay (s := { s with w := s.w + 1, cc := upd s.cc s.root (.node ⟨true, insL key val kvs⟩) }) (n := ⟨true, insL key val kvs⟩) (readS_eq hrN upd_at) (.inl rfl)]
    simp only [Option.bind_some]
    have hnf : s.root ∉ fr := hf.notin (by simp)
    have hf2 : FrOk { s with w := s.w + 1, cc := upd s.cc s.root (.node ⟨true, insL key val kvs⟩) } [s.root] fr := hf.put hnf
    rw [finS_eq (s := { s with w := s.w + 1, cc := upd s.cc s.root (.node ⟨true, insL key val kvs⟩) }) (show s.root < 65536 by omega) (by have := free_lt hf2 (N := N) (by show s.fresh ≤ N; omega) (by omega); omega) (show s.fresh < 65536 by omega) (show s.w + 1 < 100 by omega) (by omega)]
    have ti : TInv U N { s with w := s.w + 1, cc := upd s.cc s.root (.node ⟨true, insL key val kvs⟩) } (insL key val kvs) fr [s.root] :=
      ⟨upd_ok hok (leaf_ok hee hes hcap), hes, hee, hf2, by show s.fresh ≤ N; omega, .inr (.inl ⟨hr, upd_at, hcap, rfl⟩)⟩
    exact ⟨_, fr, [s.root], rfl, ti.fin (y := .head s.root s.free s.fresh) trivial, Nat.le_add_right _ _, hr, fun e => e⟩
  · have hcap : (insL key val kvs).length = U.cap + 1 := by omega
    obtain ⟨o, s1, fr1, ht, a1, a2, a3, a4, a5, a6, hf1, a7, _, a9⟩ := hf.take (N := N) (by omega)
    obtain ⟨e5, h5m, h5h, hw2⟩ := leaf_two (low := []) hee hes hcap hrN a6 ht
    rw [hw2]
    simp only [Option.bind_some]
    generalize hE : insL key val kvs = E at *
    obtain ⟨p1, p2, p3⟩ := srt_parts (i := U.lo) hes
    obtain ⟨q1, q2⟩ := head_le hes h5h
    have hone : o ≠ s.root := fun e => a4 (by rw [e]; simp)
    have ok1 : NdOk ⟨true, E.take U.lo⟩ := leaf_ok (U := U) (fun e hm => hee e (List.mem_of_mem_take hm)) p1 (by rw [List.length_take]; omega)
    have ok2 : NdOk ⟨true, E.drop U.lo⟩ := leaf_ok (U := U) (fun e hm => hee e (List.mem_of_mem_drop hm)) p2 (by rw [List.length_drop]; omega)
    have hf2 : FrOk ⟨s1.root, s1.free, s1.fresh, s1.w + 2, upd (upd s1.cc s.root (.node ⟨true, E.take U.lo⟩)) o (.node ⟨true, E.drop U.lo⟩)⟩ [o, s.root] fr1 :=
      ⟨(hf1.c.upd (hf1.notin (by simp))).upd (hf1.notin (by simp)), hf1.d, hf1.m, hf1.n⟩
    obtain ⟨r2, s2, fr2, ht2, b1, b2, b3, b4, b5, b6, hf3, b7, _, b9⟩ := hf2.take (N := N) (by show s1.fresh < N; omega)
    have hr2o : r2 ≠ o := fun e => b4 (by rw [e]; simp)
    have hr2s : r2 ≠ s.root := fun e => b4 (by rw [e]; simp)
    let ls : List Lf := [⟨[], s.root, E.take U.lo⟩, ⟨e5.k, o, E.drop U.lo⟩]
    have h5k : e5.k.length = U.kl := (hee e5 (List.mem_of_mem_drop h5m)).k
    have h5ne : lexB [] e5.k = true := by
      have : ∃ a, a ∈ E.take U.lo := by
        have : 0 < (E.take U.lo).length := by rw [List.length_take]; omega
        exact ⟨(E.take U.lo)[0], List.getElem_mem _⟩
      obtain ⟨a, ha⟩ := this
      have := q1 a ha
      cases h : e5.k with
      | nil => rw [h] at this; cases ha2 : a.k <;> rw [ha2] at this <;> simp [lexB] at this
      | cons x l => rfl
    have hord : Ord ls := by
      refine ⟨?_, ?_, ?_⟩
      · exact List.pairwise_pair.2 h5ne
      · intro x hx e he
        simp only [ls, List.mem_cons, List.not_mem_nil, or_false] at hx
        rcases hx with rfl | rfl
        · cases h : e.k <;> simp [lexB]
        · exact q2 e he
      · exact List.pairwise_pair.2 fun e he => q1 e he
    have hin : NdOk ⟨false, ls.map Lf.en⟩ := inner_ok (U := U) hord.s1 (fun x hx => by
      simp only [ls, List.mem_cons, List.not_mem_nil, or_false] at hx
      rcases hx with rfl | rfl
      · simp
      · show e5.k.length ≤ U.kl; omega) (fun x hx => by
      simp only [ls, List.mem_cons, List.not_mem_nil, or_false] at hx
      rcases hx with rfl | rfl
      · show s.root < 65536; omega
      · show o < 65536; omega) (by show 2 * _ ≤ 253; exact hT)
    have hg : growS N [⟨[], [], s.root⟩, ⟨e5.k, [], o⟩] ⟨s1.root, s1.free, s1.fresh, s1.w + 2, upd (upd s1.cc s.root (.node ⟨true, E.take U.lo⟩)) o (.node ⟨true, E.drop U.lo⟩)⟩ =
        some ⟨r2, s2.free, s2.fresh, s2.w + 1, upd s2.cc r2 (.node ⟨false, ls.map Lf.en⟩)⟩ := by
      unfold growS
      rw [if_pos (by simp), ht2]
      simp only [Option.bind_some]
      exact putS_eq (s := { s2 with root := r2 }) (y := .node ⟨false, ls.map Lf.en⟩) b6 hin
    rw [hg]
    simp only [Option.bind_some]
    rw [drop_stay (s := ⟨r2, s2.free, s2.fresh, s2.w + 1, upd s2.cc r2 (.node ⟨false, ls.map Lf.en⟩)⟩) (n := ⟨false, ls.map Lf.en⟩) (readS_eq b6 upd_at) (.inr (by simp [ls]))]
    simp only [Option.bind_some]
    have hf4 : FrOk ⟨r2, s2.free, s2.fresh, s2.w + 1, upd s2.cc r2 (.node ⟨false, ls.map Lf.en⟩)⟩ (r2 :: ls.map (·.pg)) fr2 := by
      have hp : [r2, o, s.root].Perm (r2 :: ls.map (·.pg)) := List.Perm.cons _ (List.Perm.swap _ _ _)
      exact (hf3.perm hp).put ((hf3.perm hp).notin (by simp))
    have hw3 : s2.w = s.w + 2 := by rw [b3]; show s1.w + 2 = _; rw [a3]
    rw [finS_eq (s := ⟨r2, s2.free, s2.fresh, s2.w + 1, upd s2.cc r2 (.node ⟨false, ls.map Lf.en⟩)⟩) (show r2 < 65536 by omega) (by have := free_lt hf4 (N := N) (by show s2.fresh ≤ N; have : s2.fresh ≤ s1.fresh + 1 := b7; omega) (by omega); omega) (by show s2.fresh < 65536; have : s2.fresh ≤ s1.fresh + 1 := b7; omega) (by show s2.w + 1 < 100; omega) (by omega)]
    have hcc2 : s2.cc = upd (upd s.cc s.root (.node ⟨true, E.take U.lo⟩)) o (.node ⟨true, E.drop U.lo⟩) := by rw [b1, a1]
    have ti : TInv U N ⟨r2, s2.free, s2.fresh, s2.w + 1, upd s2.cc r2 (.node ⟨false, ls.map Lf.en⟩)⟩ E fr2 (r2 :: ls.map (·.pg)) := by
      refine ⟨?_, hes, hee, hf4, by show s2.fresh ≤ N; have : s2.fresh ≤ s1.fresh + 1 := b7; omega, .inr (.inr ⟨ls, ⟨upd_at, ?_, by simp [ls], ?_, ?_, hord, ?_⟩, rfl, ?_⟩)⟩
      · show ∀ p, p < N → (upd s2.cc r2 _ p).Ok
        rw [hcc2]
        exact upd_ok (upd_ok (upd_ok hok ok1) ok2) hin
      · intro x hx
        show upd s2.cc r2 _ x.pg = _
        rw [hcc2]
        simp only [ls, List.mem_cons, List.not_mem_nil, or_false] at hx
        rcases hx with rfl | rfl
        · rw [upd_ne (by show s.root ≠ r2; exact fun e => hr2s e.symm), upd_ne (by show s.root ≠ o; exact fun e => hone e.symm), upd_at]
        · rw [upd_ne (by show o ≠ r2; exact fun e => hr2o e.symm), upd_at]
      · intro x hx
        simp only [ls, List.mem_cons, List.not_mem_nil, or_false] at hx
        rcases hx with rfl | rfl
        · show U.lo ≤ (E.take U.lo).length ∧ (E.take U.lo).length ≤ U.cap
          rw [List.length_take]; omega
        · show U.lo ≤ (E.drop U.lo).length ∧ (E.drop U.lo).length ≤ U.cap
          rw [List.length_drop]; omega
      · intro x hx
        cases hx; rfl
      · intro x hx
        simp only [ls, List.mem_cons, List.not_mem_nil, or_false] at hx
        rcases hx with rfl | rfl
        · simp
        · show e5.k.length ≤ U.kl; omega
      · simp [ls]
    refine ⟨_, fr2, _, rfl, ti.fin (y := .head r2 s2.free s2.fresh) trivial, ?_, ?_, fun e => b9 (a9 e)⟩
    · show s2.fresh ≤ s.fresh + 2
      have : s2.fresh ≤ s1.fresh + 1 := b7
      omega
    · show r2 ≠ 0; omega
end Go.Proofs.YtfaeklinhchidaaGreat

/-
  A key is put into a tree of two pages' height. No program in sight.
-/
set_option linter.all false
set_option maxRecDepth 100000
namespace Go.Proofs.YtfaeklinhchidaaGreat
open Go Hold
theorem at_two {M : Nat → St → Nd → Nat → Option (Nd × St)} {N q r : Nat} {leafF : Nd → Nd} {key low : Bs} {s s1 s2 : St} {l below : List En} {e : En} {n' : Nd} (hr : readS N s r = some ⟨false, l⟩) (he : l[(findP ⟨false, l⟩ key).1]? = some e)
    (hb : atS M N leafF key q s e.pg e.k = some (below, s1)) (hm : M N s1 ⟨false, l.take (findP ⟨false, l⟩ key).1 ++ below ++ l.drop ((findP ⟨false, l⟩ key).1 + 1)⟩ (findP ⟨false, l⟩ key).1 = some (n', s2)) : atS M N leafF key (q + 1) s r low = writeS N s2 r low n' := by
  rw [atS]
  rw [hr]
  simp only [Option.bind_eq_bind, Option.bind_some, Bool.false_eq_true, if_false]
  rw [he]
  simp only [Option.bind_some]
  rw [hb]
  simp only [Option.bind_some]
  rw [hm]
  rfl
theorem at_leaf {M : Nat → St → Nd → Nat → Option (Nd × St)} {N q p : Nat} {leafF : Nd → Nd} {key low : Bs} {s : St} {es : List En} (hr : readS N s p = some ⟨true, es⟩) : atS M N leafF key (q + 1) s p low = writeS N s p low (leafF ⟨true, es⟩) := by
  rw [atS, hr]
  simp only [Option.bind_eq_bind, Option.bind_some, if_true]
/-- The root is written again. -/
theorem two_rest {U : Uz} {N : Nat} {s1 : St} {ls : List Lf} {kvs : List En} {fr1 : List Nat} (hok : ∀ p, p < N → (s1.cc p).Ok) (hsr : Srt (ls.flatMap (·.es))) (hen : ∀ e ∈ ls.flatMap (·.es), EnU U e) (hf : FrOk s1 (s1.root :: ls.map (·.pg)) fr1)
    (hc : ∀ x ∈ ls, s1.cc x.pg = .node ⟨true, x.es⟩) (hn : 2 ≤ ls.length) (hl : ∀ x ∈ ls, U.lo ≤ x.es.length ∧ x.es.length ≤ U.cap) (hh : ∀ x, ls.head? = some x → x.low = []) (ho : Ord ls) (hlw : ∀ x ∈ ls, x.low.length ≤ U.kl)
    (hb : ls.length * (U.kl + 3) ≤ 253) (hw : s1.w ≤ 20) (hN : s1.fresh < N) (hN2 : N ≤ 60000) :
    ∃ s', ((writeS N s1 s1.root [] ⟨false, ls.map Lf.en⟩).bind fun q => (growS N q.1 q.2).bind fun s3 => (dropS N 3 s3).bind fun s4 => finS N s4) = some s' ∧ TInv U N s' (ls.flatMap (·.es)) fr1 (s1.root :: ls.map (·.pg)) ∧ s'.fresh = s1.fresh ∧ s'.root = s1.root ∧ s'.root ≠ 0 := by
  have hpl : ∀ x ∈ ls, x.pg < s1.fresh := fun x hx => (hf.m x.pg (by simp; exact .inr (.inl ⟨x, hx, rfl⟩))).2
  have hrm := hf.m s1.root (by simp)
  have hrN : s1.root < N := by omega
  have hin : NdOk ⟨false, ls.map Lf.en⟩ := inner_ok (U := U) ho.s1 hlw (fun x hx => by have := hpl x hx; omega) hb
  have hwr : writeS N s1 s1.root [] ⟨false, ls.map Lf.en⟩ = some ([⟨[], [], s1.root⟩], { s1 with w := s1.w + 1, cc := upd s1.cc s1.root (.node ⟨false, ls.map Lf.en⟩) }) := by
    unfold writeS
    rw [if_pos hin.b, putS_eq (y := .node ⟨false, ls.map Lf.en⟩) hrN hin]
    rfl
  rw [hwr]
  simp only [Option.bind_some]
  have hg : growS N [⟨[], [], s1.root⟩] { s1 with w := s1.w + 1, cc := upd s1.cc s1.root (.node ⟨false, ls.map Lf.en⟩) } = some { s1 with w := s1.w + 1, cc := upd s1.cc s1.root (.node ⟨false, ls.map Lf.en⟩) } := by
    unfold growS; rw [if_neg (by simp)]
  rw [hg]
  simp only [Option.bind_some]
  rw [drop_stay (s := { s1 with w := s1.w + 1, cc := upd s1.cc s1.root (.node ⟨false, ls.map Lf.en⟩) }) (n := ⟨false, ls.map Lf.en⟩) (readS_eq hrN upd_at) (.inr (by show (ls.map Lf.en).length ≠ 1; rw [List.length_map]; omega))]
  simp only [Option.bind_some]
  have hf2 : FrOk { s1 with w := s1.w + 1, cc := upd s1.cc s1.root (.node ⟨false, ls.map Lf.en⟩) } (s1.root :: ls.map (·.pg)) fr1 := hf.put (hf.notin (by simp))
  rw [finS_eq (s := { s1 with w := s1.w + 1, cc := upd s1.cc s1.root (.node ⟨false, ls.map Lf.en⟩) }) (show s1.root < 65536 by omega) (by have := free_lt hf2 (N := N) (by show s1.fresh ≤ N; omega) (by omega); omega) (show s1.fresh < 65536 by omega) (show s1.w + 1 < 100 by omega) (by omega)]
  have hne : ∀ x ∈ ls, x.pg ≠ s1.root := fun x hx e => by
    have := hf.d
    rw [List.cons_append, List.nodup_cons] at this
    exact this.1 (List.mem_append_left _ (by rw [← e]; exact List.mem_map_of_mem hx))
  have ti : TInv U N { s1 with w := s1.w + 1, cc := upd s1.cc s1.root (.node ⟨false, ls.map Lf.en⟩) } (ls.flatMap (·.es)) fr1 (s1.root :: ls.map (·.pg)) :=
    ⟨upd_ok hok hin, hsr, hen, hf2, by show s1.fresh ≤ N; omega, .inr (.inr ⟨ls, ⟨upd_at, fun x hx => by show upd s1.cc s1.root _ x.pg = _; rw [upd_ne (hne x hx)]; exact hc x hx, hn, hl, hh, ho, hlw⟩, rfl, rfl⟩)⟩
  exact ⟨_, rfl, ti.fin (y := .head s1.root s1.free s1.fresh) trivial, rfl, rfl, by show s1.root ≠ 0; omega⟩
theorem flat_lenL {α : Type} {m : Nat} {f : α → List En} : ∀ {l : List α}, (∀ x ∈ l, m ≤ (f x).length) → l.length * m ≤ (l.flatMap f).length
  | [], _ => by simp
  | x :: l, h => by
    have ih := flat_lenL (f := f) (l := l) (fun y hy => h y (List.mem_cons_of_mem _ hy))
    have := h x (by simp)
    rw [List.flatMap_cons, List.length_append, List.length_cons, Nat.add_mul]; omega
/-- Where a key goes, and what stands on either side. -/
structure Spot (key : Bs) (ls L1 : List Lf) (x : Lf) (L2 : List Lf) : Prop where
  e : ls = L1 ++ x :: L2
  i : (findP ⟨false, ls.map Lf.en⟩ key).1 = L1.length
  k1 : lexB key x.low = false
  k2 : ∀ b ∈ L2, lexB key b.low = true
  a : ∀ e ∈ L1.flatMap (·.es), lexB e.k key = true
  b : ∀ e ∈ L2.flatMap (·.es), lexB key e.k = true
theorem spot_of {ls : List Lf} {key : Bs} (ho : Ord ls) (hh : ∀ x, ls.head? = some x → x.low = []) (hn : ls ≠ []) : ∃ L1 x L2, Spot key ls L1 x L2 := by
  have hs : Srt (ls.map Lf.en) := by unfold Srt; rw [List.pairwise_map]; exact ho.s1
  have h0 : ∀ e, (ls.map Lf.en).head? = some e → lexB key e.k = false := fun e he => by
    rw [List.head?_map] at he
    cases hl : ls.head? with
    | none => rw [hl] at he; cases he
    | some x =>
      rw [hl] at he
      have := hh x hl
      cases he
      show lexB key x.low = false
      rw [this]
      cases key <;> simp [lexB]
  obtain ⟨h1, h2, h3⟩ := find_in (key := key) hs h0 (by simpa using hn)
  generalize hi : (findP ⟨false, ls.map Lf.en⟩ key).1 = i at *
  rw [List.length_map] at h1
  have he : ls = ls.take i ++ ls[i] :: ls.drop (i + 1) := by rw [← List.drop_eq_getElem_cons h1, List.take_append_drop]
  have hk1 : lexB key ls[i].low = false := by
    have := h2 i (by rw [List.length_map]; exact h1) (Nat.le_refl _)
    rw [List.getElem_map] at this; exact this
  have hk2 : ∀ b ∈ ls.drop (i + 1), lexB key b.low = true := fun b hb => by
    obtain ⟨j, hj, rfl⟩ := List.getElem_of_mem hb
    rw [List.length_drop] at hj
    rw [List.getElem_drop]
    have := h3 (i + 1 + j) (by rw [List.length_map]; omega) (by omega)
    rw [List.getElem_map] at this; exact this
  have hp := ho.s3
  rw [he, List.pairwise_append] at hp
  refine ⟨ls.take i, ls[i], ls.drop (i + 1), he, by rw [List.length_take]; omega, hk1, hk2, fun e hm => ?_, fun e hm => ?_⟩
  · obtain ⟨a, ha, hea⟩ := List.mem_flatMap.1 hm
    have h4 := hp.2.2 a ha ls[i] List.mem_cons_self e hea
    by_cases e5 : key = ls[i].low
    · rw [e5]; exact h4
    · exact lexB_trans _ _ _ h4 (lexB_total hk1 e5)
  · obtain ⟨b, hb, heb⟩ := List.mem_flatMap.1 hm
    have h4 := ho.s2 b (List.mem_of_mem_drop hb) e heb
    have h5 := hk2 b hb
    by_cases e5 : e.k = b.low
    · rw [e5]; exact h5
    · exact lexB_trans _ _ _ h5 (lexB_total h4 e5)
end Go.Proofs.YtfaeklinhchidaaGreat
