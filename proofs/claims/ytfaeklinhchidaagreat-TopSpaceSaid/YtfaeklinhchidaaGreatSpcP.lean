/-
  What TopPages keeps in mind. No program in sight.
-/
import Derived.Test.YtfaeklinhchidaaGreatTreV
import Derived.Test.YtfaeklinhchidaaGreatDskF
import Derived.Test.YtfaeklinhchidaaGreatWalT
import Derived.Test.YtfaeklinhchidaaGreatOpens
import Derived.Test.YtfaeklinhchidaaGreatPgrP
import Derived.Test.YtfaeklinhchidaaGreatPI
import Derived.Test.YtfaeklinhchidaaGreatPB
import Derived.Test.YtfaeklinhchidaaGreatStrs
import Derived.Test.YtfaeklinhchidaaGreatPrsB
import Derived.Test.YtfaeklinhchidaaGreatTrpF
import Derived.Test.YtfaeklinhchidaaGreatTests
set_option linter.all false
set_option maxRecDepth 100000
namespace Go.Proofs.YtfaeklinhchidaaGreat
open Go Hold Go.ChangeShapes Go.WideShapes
structure Kept (P : Pg) (gs : List (List Int)) (want : Bs) (i : Nat) : Prop where
  ok : POk P gs
  d : P.dirty = []
  w : P.S.W = []
  size : P.S.size = 20
  len : P.S.L.length = 60
  g : P.S.groups ≤ i
  h0 : P.hits = 0
  m0 : P.misses = 0
  wl : want.length = 39
  v : ∀ n, n < 39 → (P.S.view n)[7]? = want[n]?
structure In (P Q : Pg) (gs : List (List Int)) (want : Bs) (k : Nat) : Prop where
  ok : POk Q gs
  s : Q.S = P.S
  dl : Q.dirty.length ≤ k
  wl : want.length = 39
  v : ∀ n, n < 39 → (Q.page n)[7]? = want[n]?
theorem Kept.pages {P : Pg} {gs : List (List Int)} {want : Bs} {i : Nat} (k : Kept P gs want i) : P.S.pages = 39 := by
  have := k.size; have := k.len; unfold Lg.pages; omega
theorem Kept.start : Kept (newP (newL 60 20) 2) [] (List.replicate 39 0) 0 := by
  have i := newL_inv (n := 60) (size := 20) (by omega) (by omega) (by omega)
  refine ⟨newP_ok i (by omega) (by omega), rfl, rfl, rfl, by simp [newP, newL], by simp [newP, newL], rfl, rfl, by simp, fun n hn => ?_⟩
  have hpl : (newP (newL 60 20) 2).S.place n = 21 + n := by show (newL 60 20).place n = _; unfold Lg.place; simp [newL, lookA]
  unfold Lg.view
  rw [hpl]
  show ((List.replicate 60 zeros).getD _ _)[7]? = _
  rw [List.getD_eq_getElem?_getD, List.getElem?_replicate, if_pos (by omega), List.getElem?_replicate, if_pos (by omega)]
  rfl
theorem In.write {P Q : Pg} {gs gs0 : List (List Int)} {want w0 : Bs} {k i : Nat} (kp : Kept P gs0 w0 i) (h : In P Q gs want k) (hk : k < 100) {n : Nat} (hn : n < 39) {b : Bs} (hb : b.length = 256) {x : UInt8} (hx : b[7]? = some x) :
    writeE Q n b = 0 ∧ In P (writeT Q n b) gs (want.set n x) (k + 1) := by
  have hpg : Q.S.pages = 39 := by rw [h.s]; exact kp.pages
  have hdl := h.dl
  have he : writeE Q n b = 0 := by
    unfold writeE lookE
    rw [if_neg (by rw [if_neg (by omega)]; simp), if_neg (by omega), if_neg (by omega)]
  refine ⟨he, h.ok.write he, h.s, ?_, by rw [List.length_set]; exact h.wl, fun m hm => ?_⟩
  · show (putB Q.dirty n b).length ≤ k + 1
    rw [putB_len]; split <;> omega
  · show (((lookB (putB Q.dirty n b) m).getD (Q.S.view m)))[7]? = _
    rw [lookB_put, List.getElem?_set]
    by_cases e : n = m
    · subst e
      rw [if_pos rfl, if_pos rfl, if_pos (by rw [h.wl]; omega)]
      exact hx
    · rw [if_neg (by omega), if_neg e]
      exact h.v m hm
theorem In.com {P Q : Pg} {gs gs0 : List (List Int)} {want w0 : Bs} {k i : Nat} (kp : Kept P gs0 w0 i) (h : In P Q gs want k) (hk : k ≤ 15) :
    comE Q.S Q.dirty = 0 ∧ (Q.dirty.length = 0 → (comS Q.S Q.dirty).W.length = 0) ∧ Q.dirty.length + (if Q.dirty.length = 0 then 0 else 2) ≤ (comS Q.S Q.dirty).W.length ∧ (comS Q.S Q.dirty).W.length ≤ 2000 ∧ (comS Q.S Q.dirty).groups ≤ i + 1 ∧ (comS Q.S Q.dirty).L.length = 60 ∧
    (∀ n, n < 39 → ((comS Q.S Q.dirty).view n)[7]? = want[n]?) ∧ (comS Q.S Q.dirty).size = 20 := by
  have hpg : Q.S.pages = 39 := by rw [h.s]; exact kp.pages
  have hw0 : Q.S.W = [] := by rw [h.s]; exact kp.w
  have hg0 : Q.S.groups ≤ i := by rw [h.s]; exact kp.g
  have hs0 : Q.S.size = 20 := by rw [h.s]; exact kp.size
  have hl0 : Q.S.L.length = 60 := by rw [h.s]; exact kp.len
  have hdl := h.dl
  by_cases hd : Q.dirty.length = 0
  · have hd0 := List.length_eq_zero_iff.1 hd
    obtain ⟨c1, c2⟩ := com_nil Q.S
    rw [hd0, c1, c2, hw0]
    refine ⟨rfl, fun _ => rfl, by simp, by simp, by omega, hl0, fun n hn => ?_, hs0⟩
    have := h.v n hn
    unfold Pg.page at this
    rw [hd0] at this
    exact this
  · have hco := com_ok h.ok.i (ps := Q.dirty) (by omega) (by omega) (fun p hp => (h.ok.da p hp).1) ⟨h.ok.dn, fun p hp => (h.ok.da p hp).2⟩ (by omega)
    have g1 := hco.w1; have g2 := hco.w2; have g3 := hco.l; have g4 := hco.g
    rw [hw0] at g1 g2
    simp only [List.length_nil] at g1 g2
    refine ⟨hco.e, fun e => absurd e hd, by rw [if_neg hd]; omega, by omega, by omega, by omega, fun n hn => ?_, by rw [com_size]; exact hs0⟩
    rw [h.ok.i.com_view (by omega), if_pos hco.e]
    exact h.v n hn
theorem In.next {P Q : Pg} {gs gs0 : List (List Int)} {want w0 : Bs} {k i : Nat} (kp : Kept P gs0 w0 i) (h : In P Q gs want k) (hk : k ≤ 15) :
    ∃ gs', LInv (comS Q.S Q.dirty) gs' ∧ Kept (newP (ofL (comS Q.S Q.dirty) (comS Q.S Q.dirty).L) 2) gs' want (i + 1) := by
  obtain ⟨c1, c2, c3, c4, c5, c6, c7, c8⟩ := h.com kp hk
  obtain ⟨gs', i'⟩ := h.ok.i.com Q.dirty
  have i2 := i'.alike.inv i'
  exact ⟨gs', i', newP_ok i2 (by omega) (by omega), rfl, rfl, c8, c6, c5, rfl, rfl, h.wl, c7⟩
section
variable {W : World} {H : Type} {enc : TypeId × Value → H} {r : Reach} {b0 : Nat} {v : Value} {d : DataW H} {p : List MemPlace}
end
end Go.Proofs.YtfaeklinhchidaaGreat

/-
  A tree of a new disk.
-/
set_option linter.all false
set_option maxRecDepth 100000
namespace Go.Proofs.YtfaeklinhchidaaGreat
open Go Hold
variable {E : World0} {w : World} {H R X : HP} {K : Value → World → Prop}
def s00 : St := ⟨0, 0, 1, 0, fun _ => .zero⟩
theorem px_start {n : Nat} (h1 : 120 ≤ n) (h2 : n ≤ 1000) : PX (newP (newL n 110) 8) [] (n - 111) (fun _ => .zero) 0 0 1000000 := by
  have i := newL_inv (n := n) (size := 110) (by omega) (by omega) (by omega)
  refine ⟨newP_ok i (by omega) (by omega), rfl, ?_, by simp [newP, newL], by simp [newP, newL], by simp [newP], by simp [newP], fun m hm => ?_⟩
  · show (newL n 110).pages = n - 111
    unfold Lg.pages newL; simp; omega
  · have hpl : (newP (newL n 110) 8).S.place m = 111 + m := by show (newL n 110).place m = _; unfold Lg.place; simp [newL, lookA]
    show (lookB [] (m : Int)).getD ((newP (newL n 110) 8).S.view m) = _
    unfold Lg.view
    rw [hpl]
    show ((List.replicate n zeros).getD _ _) = _
    rw [List.getD_eq_getElem?_getD, List.getElem?_replicate, if_pos (by omega)]
    rfl
theorem nz_spec {x : UInt8} (k : K (.bool !(decide (x = 0))) w) : Calls prog 78 #[bv x] w (Ret K) := by
  refine c78 ?_
  unfold B78
  simp only [bv, ↓opsA, opsB, if_true, if_false, ↓reduceIte]
  have : decide ((x.toNat : Int) = 0) = decide (x = 0) := by
    by_cases h : x = 0
    · subst h; rfl
    · rw [decide_eq_false h, decide_eq_false]
      intro h2
      exact h (UInt8.toNat_inj.1 (by simpa using h2))
  rw [this]
  exact k
theorem allZero_spec (h : sat E w H) {v : Value} (hv : Rds H v 256 ((List.replicate 256 (0 : UInt8)).map bv)) (k : ∀ w', sat E w' H → K (.bool false) w') : Calls prog 74 #[v, .func (.func 78) #[] #[]] w (Ret K) := by
  obtain ⟨a, c, rfl, hc, hv, ha⟩ := hv.shape h
  refine c74 ?_
  unfold B74
  refine c115 ?_
  unfold B115
  simp only [↓opsA, opsB, if_true, if_false, ↓reduceIte]
  refine lp_nat (fun q σ w => ∃ i : Nat, σ = [.int .i64 i] ∧ q = 256 - i ∧ i ≤ 256 ∧ sat E w H) 256 ⟨0, rfl, rfl, by omega, h⟩ ?_
  rintro q σ w again ⟨i, rfl, rfl, hi, h⟩ hag
  simp only [↓opsA, opsB, if_true, if_false, ↓reduceIte]
  refine cd_dec (fun hlt => ?_) (fun hge => ?_)
  · have hlt : i < 256 := by omega
    obtain ⟨b1, o1, rfl, hb1⟩ := win_cell (hv.win h) (j := i) (by simpa using hlt)
    rw [o_index (by omega) (by omega)]
    simp only [Int.toNat_natCast, Nat.mul_one]
    refine ld_cell hb1 ?_
    rw [List.getElem_map, List.getElem_replicate]
    refine oCall_body Tryz.func78 (by kernel_rfl) (by kernel_rfl) ?_
    refine nz_spec ?_
    simp only [decide_true, Bool.not_true, cd_false, ↓opsA, opsB, if_true, if_false, ↓reduceIte]
    rw [i64_of (by omega) (by omega)]
    exact hag (256 - (i + 1)) _ _ (by omega) ⟨i + 1, rfl, rfl, by omega, h⟩
  · have h1 : ¬ (0 : Int) ≤ -1 := by omega
    simp only [h1, ↓opsA, opsB, if_true, if_false, ↓reduceIte]
    exact k w h
theorem OpenT_spec {A : Ad} {N c : Nat} (hN : 2 ≤ N) (h : sat E w (pX A N (fun _ => .zero) 0 0 (c + 1) * H)) (k : ∀ tb w', sat E w' (trT tb A N s00 0 0 c * H) → K (.tuple #[.pointer (some ⟨tb, 0, none⟩), .int .i64 0]) w') : Calls prog 17 #[.pointer (some ⟨A.q, 0, none⟩)] w (Ret K) := by
  refine c17 ?_
  unfold B17
  simp only [↓opsA, opsB, if_true, if_false, ↓reduceIte]
  refine XLog_spec h ?_
  refine XPages_spec h fun w h => ?_
  have h1 : ¬ (N : Int) < 2 := by omega
  simp only [h1, ↓opsA, opsB, if_true, if_false, ↓reduceIte]
  refine XDirty_spec h fun u w h => ?_
  obtain ⟨ua, uc, rfl, _, _, _⟩ := osl_shape h
  have h := h.drop
  simp only [↓opsA, opsB, if_true, if_false, ↓reduceIte, show decide ((0 : Int) < ((0 : Nat) : Int)) = false from rfl]
  refine pvv_of (v := .agg [Value.int .i64 0, .int .i64 0, .int .i64 0, .pointer (some ⟨A.q, 0, none⟩)].toArray) (fun w => by kernel_rfl) ?_
  refine box_sl h fun tb w h => ?_
  have h : sat E w (pts tb (.cells [Value.int .i64 0, .int .i64 0, .int .i64 0, .pointer (some ⟨A.q, 0, none⟩)].toArray 73 (0, 0)) * (pX A N (fun _ => .zero) 0 0 (c + 1) * H)) := h
  refine c47 ?_
  unfold B47
  rw [o_nil, o_field]
  refine ld_in (b := tb) (v := .pointer (some ⟨A.q, 0, none⟩)) h rfl ?_
  have h := h.perm (star_left_comm _ _ _)
  refine XRead_spec (n := 0) h (by omega) fun v w h => ?_
  obtain ⟨va, vc, rfl, _, _, _⟩ := osl_shape h
  rw [o_extract, o_extract]
  refine alloc_sl h fun bb w h => ?_
  have h : sat E w (pts bb (.cells [Value.slice none 0 0].toArray 22 (0, 0)) * _) := h
  refine store_at (b := bb) (xs := [Value.slice none 0 0]) h rfl (by simp) fun w h => ?_
  refine pvv_of (v := .agg [Value.int .i64 0, .int .i64 0, .int .i64 1].toArray) (fun w => by kernel_rfl) ?_
  rw [o_nil, o_field]
  have h := h.own tb
  refine store_part (b := tb) h (vs := [Value.int .i64 0, .int .i64 0, .int .i64 1]) [Value.int .i64 0, .int .i64 0, .int .i64 1, .pointer (some ⟨A.q, 0, none⟩)] rfl (by simp [Value.oneCell']) (by simp) rfl fun w h => ?_
  refine ld_in (b := bb) (v := .slice va 256 vc) h rfl ?_
  refine allZero_spec h (Rds.osl.left.right.right) fun w h => ?_
  simp only [↓opsA, opsB, if_true, if_false, ↓reduceIte]
  refine k tb w ?_
  have h := h.perm (show _ = osl 5 1 (.slice va 256 vc) 256 (((fun _ => PgC.zero) 0).bytes.map bv) * (pts bb (.cells [Value.slice va 256 vc].toArray 22 (0, 0)) * (trT tb A N s00 0 0 c * H)) by
    show _ = osl 5 1 (.slice va 256 vc) 256 (((fun _ => PgC.zero) 0).bytes.map bv) * (pts bb (.cells [Value.slice va 256 vc].toArray 22 (0, 0)) * ((pts tb (.cells [Value.int .i64 0, .int .i64 0, .int .i64 1, .pointer (some ⟨A.q, 0, none⟩)].toArray 73 (0, 0)) * pX A N (fun _ => .zero) 0 0 c) * H))
    ac_rfl)
  exact h.drop.drop
theorem tall_spec (h : sat E w H) {n : Nat} (h1 : 120 ≤ n) (h2 : n ≤ 1000) (k : ∀ tb A w', sat E w' (trT tb A (n - 111) s00 0 0 999999 * H) → K (.tuple #[.pointer (some ⟨tb, 0, none⟩), .int .i64 0]) w') : Calls prog 5 #[.int .i64 n, .int .i64 110] w (Ret K) := by
  refine c5 ?_
  unfold B5
  refine New_spec h (n := n) (by omega) (by omega) fun d0 w h => ?_
  simp only [↓opsA, opsB, if_true, if_false, ↓reduceIte]
  rw [Int.toNat_natCast] at h
  have i0 := newL_inv (n := n) (size := 110) (by omega) (by omega) (by omega)
  refine Open_spec (S := newL n 110) (gs := []) i0 rfl (by show (0 : Nat) < 2 ^ 62; decide) (dd := d0) (W := []) h (Z_wf (by omega) (by omega)) fun p d b w h => ?_
  try simp only [↓opsA, opsB, if_true, if_false, ↓reduceIte]
  refine PNew_spec (most := 8) h (by omega) (by omega) fun A w hA h => ?_
  try simp only [↓opsA, opsB, if_true, if_false, ↓reduceIte]
  have h := (h.perm (star_left_comm _ _ _)).drop
  have h : sat E w (pX A (n - 111) (fun _ => .zero) 0 0 1000000 * H) := sat_pX.2 ⟨_, _, px_start h1 h2, h⟩
  refine OpenT_spec (by omega) h fun tb w h => ?_
  simp only [↓opsA, opsB, if_true, if_false, ↓reduceIte]
  exact k tb A w h
end Go.Proofs.YtfaeklinhchidaaGreat

/-
  Copies and comparisons.
-/
set_option linter.all false
set_option maxRecDepth 10000
namespace Go.Proofs.YtfaeklinhchidaaGreat
open Go Hold
variable {E : World0} {w : World} {H R : HP} {K : Value → World → Prop}

end Go.Proofs.YtfaeklinhchidaaGreat

/-
  Bits turned.
-/
set_option linter.all false
set_option maxRecDepth 10000
namespace Go.Proofs.YtfaeklinhchidaaGreat
open Go Hold
variable {E : World0} {w : World} {H R : HP} {K : Value → World → Prop}
/-- Bits turned right. -/
def rotr (x : UInt32) (n : Nat) : UInt32 := (x <<< UInt32.ofNat (32 - n)) ||| (x >>> UInt32.ofNat n)
end Go.Proofs.YtfaeklinhchidaaGreat

/-
  SHA-256, as the code reckons it.
-/
set_option linter.all false
set_option maxRecDepth 10000
namespace Go.Proofs.YtfaeklinhchidaaGreat
open Go Hold
def word (b : List UInt8) (i : Nat) : UInt32 :=
  (((b.getD (4 * i) 0).toUInt32 <<< UInt32.ofNat 24 ||| (b.getD (4 * i + 1) 0).toUInt32 <<< UInt32.ofNat 16) ||| (b.getD (4 * i + 2) 0).toUInt32 <<< UInt32.ofNat 8) ||| (b.getD (4 * i + 3) 0).toUInt32
def wNext (w : List UInt32) (i : Nat) : UInt32 :=
  w.getD (i - 16) 0 + ((rotr (w.getD (i - 15) 0) 7 ^^^ rotr (w.getD (i - 15) 0) 18) ^^^ w.getD (i - 15) 0 >>> UInt32.ofNat 3) + w.getD (i - 7) 0 + ((rotr (w.getD (i - 2) 0) 17 ^^^ rotr (w.getD (i - 2) 0) 19) ^^^ w.getD (i - 2) 0 >>> UInt32.ofNat 10)
def sched (b : List UInt8) : Nat → List UInt32
  | 0 => []
  | i + 1 => sched b i ++ [if i < 16 then word b i else wNext (sched b i) i]
structure HSt where
  (a b c d e f g h : UInt32)
def HSt.list (v : HSt) : List UInt32 := [v.a, v.b, v.c, v.d, v.e, v.f, v.g, v.h]
def big1 (e : UInt32) : UInt32 := (rotr e 6 ^^^ rotr e 11) ^^^ rotr e 25
def big0 (a : UInt32) : UInt32 := (rotr a 2 ^^^ rotr a 13) ^^^ rotr a 22
def tOf (k w : UInt32) (v : HSt) : UInt32 := v.h + big1 v.e + (v.g ^^^ (v.e &&& (v.f ^^^ v.g))) + k + w
def uOf (v : HSt) : UInt32 := big0 v.a + ((v.a &&& v.b) ||| (v.c &&& (v.a ||| v.b)))
def round (k w : UInt32) (v : HSt) : HSt := ⟨tOf k w v + uOf v, v.a, v.b, v.c, v.d + tOf k w v, v.e, v.f, v.g⟩
def rounds (ks ws : List UInt32) (v : HSt) : Nat → HSt
  | 0 => v
  | n + 1 => round (ks.getD n 0) (ws.getD n 0) (rounds ks ws v n)
def HSt.add (x y : HSt) : HSt := ⟨x.a + y.a, x.b + y.b, x.c + y.c, x.d + y.d, x.e + y.e, x.f + y.f, x.g + y.g, x.h + y.h⟩
def mix (ks : List UInt32) (st : HSt) (b : List UInt8) : HSt := st.add (rounds ks (sched b 64) st 64)
end Go.Proofs.YtfaeklinhchidaaGreat

/-
  mix: a block of 64 bytes, mixed into a hash.
-/
set_option linter.all false
set_option maxRecDepth 10000
namespace Go.Proofs.YtfaeklinhchidaaGreat
open Go Hold
variable {E : World0} {w : World} {H R : HP} {K : Value → World → Prop}
end Go.Proofs.YtfaeklinhchidaaGreat

/-
  mix: the block's further words.
-/
set_option linter.all false
set_option maxRecDepth 10000
namespace Go.Proofs.YtfaeklinhchidaaGreat
open Go Hold
variable {E : World0} {w : World} {H R : HP} {K : Value → World → Prop}
end Go.Proofs.YtfaeklinhchidaaGreat

/-
  mix: one round.
-/
set_option linter.all false
set_option maxRecDepth 10000
namespace Go.Proofs.YtfaeklinhchidaaGreat
open Go Hold
variable {E : World0} {w : World} {H R : HP} {K : Value → World → Prop}
end Go.Proofs.YtfaeklinhchidaaGreat

/-
  mix, whole.
-/
set_option linter.all false
set_option maxRecDepth 10000
namespace Go.Proofs.YtfaeklinhchidaaGreat
open Go Hold
variable {E : World0} {w : World} {H R : HP} {K : Value → World → Prop}
theorem HSt.len (v : HSt) : v.list.length = 8 := rfl
end Go.Proofs.YtfaeklinhchidaaGreat

/-
  SHA-256 of bytes, as plain functions, and what they say of each other.
-/
set_option linter.all false
set_option maxRecDepth 10000
namespace Go.Proofs.YtfaeklinhchidaaGreat
open Go Hold
def K0 : List UInt32 := [1116352408, 1899447441, 3049323471, 3921009573, 961987163, 1508970993, 2453635748, 2870763221, 3624381080, 310598401, 607225278, 1426881987, 1925078388, 2162078206, 2614888103, 3248222580, 3835390401, 4022224774, 264347078, 604807628, 770255983, 1249150122, 1555081692, 1996064986, 2554220882, 2821834349, 2952996808, 3210313671, 3336571891, 3584528711, 113926993, 338241895, 666307205, 773529912, 1294757372, 1396182291, 1695183700, 1986661051, 2177026350, 2456956037, 2730485921, 2820302411, 3259730800, 3345764771, 3516065817, 3600352804, 4094571909, 275423344, 430227734, 506948616, 659060556, 883997877, 958139571, 1322822218, 1537002063, 1747873779, 1955562222, 2024104815, 2227730452, 2361852424, 2428436474, 2756734187, 3204031479, 3329325298]
def st0 : HSt := ⟨1779033703, 3144134277, 1013904242, 2773480762, 1359893119, 2600822924, 528734635, 1541459225⟩
def fold (st : HSt) (m : List UInt8) : Nat → HSt
  | 0 => st
  | n + 1 => mix K0 (fold st m n) (m.drop (64 * n))
def lenBytes (n : Nat) : List UInt8 := (List.range 8).map fun i => UInt8.ofNat (n * 8 % 18446744073709551616 / 2 ^ (56 - 8 * i))
def padded (b : List UInt8) : List UInt8 := b ++ [128] ++ List.replicate ((119 - b.length % 64) % 64) 0 ++ lenBytes b.length
def digest4 (w : UInt32) : List UInt8 := [(w >>> UInt32.ofNat 24).toUInt8, (w >>> UInt32.ofNat 16).toUInt8, (w >>> UInt32.ofNat 8).toUInt8, w.toUInt8]
def digest (st : HSt) : List UInt8 := st.list.flatMap digest4
def sha (b : List UInt8) : List UInt8 := digest (fold st0 (padded b) ((padded b).length / 64))
theorem digest_length (st : HSt) : (digest st).length = 32 := rfl
theorem sha_length (b : List UInt8) : (sha b).length = 32 := digest_length _
end Go.Proofs.YtfaeklinhchidaaGreat

/-
  Sum: the SHA-256 of bytes.
-/
set_option linter.all false
set_option maxRecDepth 10000
namespace Go.Proofs.YtfaeklinhchidaaGreat
open Go Hold
variable {E : World0} {w : World} {H R : HP} {K : Value → World → Prop}
end Go.Proofs.YtfaeklinhchidaaGreat

/-
  The reference's SHA-256: words and rounds.
-/
set_option linter.all false
set_option maxRecDepth 10000
namespace Go.Proofs.YtfaeklinhchidaaGreat
open Go Hold
variable {E : World0} {w : World} {H R : HP} {K : Value → World → Prop}
def acc (b : List UInt8) (i : Nat) : Nat → UInt32
  | 0 => 0
  | j + 1 => (acc b i j <<< UInt32.ofNat 8) ||| (b.getD (4 * i + j) 0).toUInt32
end Go.Proofs.YtfaeklinhchidaaGreat

/-
  The reference's SHA-256, whole.
-/
set_option linter.all false
set_option maxRecDepth 10000
namespace Go.Proofs.YtfaeklinhchidaaGreat
open Go Hold
variable {E : World0} {w : World} {H R : HP} {K : Value → World → Prop}
end Go.Proofs.YtfaeklinhchidaaGreat

/-
  Tags: keys filled to a block, the code's and the reference's; links of a chain; hashes compared.
-/
set_option linter.all false
set_option maxRecDepth 10000
namespace Go.Proofs.YtfaeklinhchidaaGreat
open Go Hold
variable {E : World0} {w : World} {H R : HP} {K : Value → World → Prop}
def key0 (key : List UInt8) : List UInt8 := if 64 < key.length then sha key else key
def filled (key : List UInt8) : List UInt8 := key0 key ++ List.replicate (64 - (key0 key).length) 0
end Go.Proofs.YtfaeklinhchidaaGreat

/-
  Hashes compared.
-/
set_option linter.all false
set_option maxRecDepth 10000
namespace Go.Proofs.YtfaeklinhchidaaGreat
open Go Hold
variable {E : World0} {w : World} {H R : HP} {K : Value → World → Prop}
end Go.Proofs.YtfaeklinhchidaaGreat

/-
  A slice of slices of bytes, opened: each row's length is bounded.
-/
set_option linter.all false
set_option maxRecDepth 100000
namespace Go.Proofs.YtfaeklinhchidaaGreat
open Go Hold Go.ChangeShapes Go.WideShapes Go.RowKit Go.Deep
section
variable {W : World} {H : Type} {enc : TypeId × Value → H} {r : Reach} {b0 : Nat} {v : Value} {d : DataW H} {p : List MemPlace}
end
end Go.Proofs.YtfaeklinhchidaaGreat

/-
  Keys that are hashes: what the tree holds behind so many rows. No program in sight.
-/
set_option linter.all false
set_option maxRecDepth 100000
namespace Go.Proofs.YtfaeklinhchidaaGreat
open Go Hold
theorem halfGo_alike {one : En → Nat} {c all : Nat} : ∀ {l : List En}, (∀ e ∈ l, one e = c) → ∀ i s best at_ : Nat, halfGo all one l i s best at_ = halfGo all (fun _ => c) l i s best at_
  | [], _, i, s, best, at_ => rfl
  | e :: l, h, i, s, best, at_ => by
    unfold halfGo
    rw [h e (by simp)]
    rw [halfGo_alike (fun x hx => h x (List.mem_cons_of_mem _ hx)), halfGo_alike (fun x hx => h x (List.mem_cons_of_mem _ hx))]
theorem half_alike {es : List En} {kl vl : Nat} (h : ∀ e ∈ es, e.k.length = kl ∧ e.v.length = vl) : halfP ⟨true, es⟩ = halfGo (es.length * (kl + vl + 2)) (fun _ => kl + vl + 2) es.dropLast 0 0 506 1 := by
  have h1 : ∀ e ∈ es, (⟨true, es⟩ : Nd).one e = kl + vl + 2 := fun e he => by
    obtain ⟨a, b⟩ := h e he
    unfold Nd.one
    simp only [if_true, a, b]
    try omega
  unfold halfP
  rw [halfGo_alike (c := kl + vl + 2) (fun e he => h1 e (List.dropLast_subset _ he))]
  congr 1
  unfold Nd.bytes
  have : es.map (⟨true, es⟩ : Nd).one = es.map fun _ => kl + vl + 2 := List.map_congr_left h1
  show (es.map (⟨true, es⟩ : Nd).one).sum = _
  rw [this, List.map_const', List.sum_replicate_nat]
def UH : Uz where
  kl := 32
  vl := 1
  cap := 7
  lo := 4
  z1 := by omega
  z2 := by omega
  z3 := by omega
  l1 := by omega
  l2 := by omega
  l3 := by omega
  k1 := by omega
  v1 := by omega
  hf := fun es hl he => by
    rw [half_alike he, hl]
    match es, hl with
    | [a, b, c, d, e, f, g, h], _ => rfl
theorem TInv.re {U : Uz} {N : Nat} {s : St} {kvs : List En} {fr used : List Nat} (ti : TInv U N s kvs fr used) : TInv U N { s with w := 0 } kvs fr used := by
  refine ⟨ti.ok, ti.srt, ti.en, ti.f.re, ti.fN, ?_⟩
  rcases ti.sh with h | h | ⟨ls, t, h1, h2⟩
  · exact .inl h
  · exact .inr (.inl h)
  · exact .inr (.inr ⟨ls, ⟨t.r, t.c, t.n, t.l, t.h, t.o, t.w⟩, h1, h2⟩)
theorem TInv.start {U : Uz} {N : Nat} (hN : 2 ≤ N) : TInv U N s00 [] [] [] :=
  ⟨fun p hp => trivial, List.Pairwise.nil, fun e he => by simp at he, ⟨rfl, by simp, fun p hp => by simp at hp, rfl⟩, by show 1 ≤ N; omega, .inl ⟨rfl, rfl, rfl⟩⟩
structure Hs (l : List (Value × Bs)) (s : St) (kvs : List En) (used : List Nat) (i : Nat) : Prop where
  ti : TInv UH 89 s kvs [] used
  w : s.w = 0
  fr : s.fresh ≤ 1 + 3 * i
  len : kvs.length ≤ i
  all : ∀ j, j < i → ∀ r, l[j]? = some r → ∃ m x, j ≤ m ∧ m < i ∧ l[m]? = some x ∧ sha x.2 = sha r.2 ∧ (⟨sha r.2, [UInt8.ofNat m], 0⟩ : En) ∈ kvs
theorem Hs.start (l : List (Value × Bs)) : Hs l s00 [] [] 0 := ⟨TInv.start (by omega), rfl, by show 1 ≤ 1 + 3 * 0; omega, Nat.le_refl _, fun j hj => by omega⟩
theorem Hs.step {l : List (Value × Bs)} {s : St} {kvs : List En} {used : List Nat} {i : Nat} (h : Hs l s kvs used i) (hi : i < 25) {x : Value × Bs} (hx : l[i]? = some x) :
    ∃ s' kvs' used', doS mendE 89 (putF (sha x.2) [UInt8.ofNat i]) (sha x.2) s = some s' ∧ Hs l { s' with w := 0 } kvs' used' (i + 1) := by
  have hkl : (sha x.2).length = UH.kl := sha_length _
  obtain ⟨l1, l2, l3⟩ := ins_len (key := sha x.2) (val := [UInt8.ofNat i]) h.ti.srt
  have hfr := h.fr
  have hln := h.len
  obtain ⟨s', fr', used', hd, ti, hf, hr, he⟩ := put_ok mendE_easy h.ti h.w (key := sha x.2) (val := [UInt8.ofNat i]) hkl rfl (by omega) (by omega) (by
    show (insL (sha x.2) [UInt8.ofNat i] kvs).length / 4 * 35 ≤ 253
    omega) (by decide)
  have e0 : fr' = [] := List.eq_nil_of_length_eq_zero (Nat.le_zero.1 he)
  subst e0
  refine ⟨s', _, used', hd, ti.re, rfl, by show s'.fresh ≤ _; omega, by omega, fun j hj r hr => ?_⟩
  by_cases hk : sha r.2 = sha x.2
  · refine ⟨i, x, by omega, by omega, hx, hk.symm, ?_⟩
    rw [hk]
    exact ins_new h.ti.srt
  · have hji : j < i := by
      refine Classical.byContradiction fun hn => ?_
      have e1 : j = i := by omega
      rw [e1, hx] at hr
      cases hr
      exact hk rfl
    obtain ⟨m, y, a1, a2, a3, a4, a5⟩ := h.all j hji r hr
    exact ⟨m, y, a1, by omega, a3, a4, ins_old h.ti.srt a5 hk⟩
theorem checkOk_of {U : Uz} {N : Nat} {s : St} {kvs : List En} {fr used : List Nat} (ti : TInv U N s kvs fr used) (hk : 1 ≤ U.kl) : CheckOk N s used fr := by
  refine ⟨check_ok ti hk, ti.f.c, fun p hp => ?_, ti.f.d, ti.f.n, ti.fN⟩
  have := ti.f.m p (List.mem_append_right _ hp)
  exact ⟨by omega, this.2⟩
end Go.Proofs.YtfaeklinhchidaaGreat

/-
  What is deleted gives its pages back: what the tree holds in each round. No program in sight.
-/
set_option linter.all false
set_option maxRecDepth 100000
namespace Go.Proofs.YtfaeklinhchidaaGreat
open Go Hold
def US : Uz where
  kl := 2
  vl := 50
  cap := 4
  lo := 2
  z1 := by omega
  z2 := by omega
  z3 := by omega
  l1 := by omega
  l2 := by omega
  l3 := by omega
  k1 := by omega
  v1 := by omega
  hf := fun es hl he => by
    rw [half_alike he, hl]
    match es, hl with
    | [a, b, c, d, e], _ => rfl
def zv : Bs := List.replicate 50 0
def sk (b : UInt8) : Bs := [b, 1]
/-- What is held behind so many bytes. -/
def KV (l : Bs) (i : Nat) : List En := (l.take i).foldl (fun es b => insL (sk b) zv es) []
theorem KV_succ {l : Bs} {i : Nat} (h : i < l.length) : KV l (i + 1) = insL (sk l[i]) zv (KV l i) := by
  unfold KV
  have : l.take (i + 1) = l.take i ++ [l[i]] := by rw [List.take_succ, List.getElem?_eq_getElem h]; rfl
  rw [this, List.foldl_append]
  rfl
/-- How many pages there are for so many entries. -/
theorem used_bounds {N : Nat} {s : St} {kvs : List En} {fr used : List Nat} (ti : TInv US N s kvs fr used) : used.length ≤ 1 + kvs.length / 2 ∧ kvs.length ≤ 4 * used.length := by
  rcases ti.sh with ⟨a, b, c⟩ | ⟨a, b, c, d⟩ | ⟨ls, t, hus, hkv⟩
  · rw [b, c]; simp
  · rw [d]
    have : kvs.length ≤ 4 := c
    simp; omega
  · subst hus; subst hkv
    have h1 := flat_lenL (m := 2) (f := fun y : Lf => y.es) (l := ls) (fun y hy => (t.l y hy).1)
    have h2 : ∀ {l : List Lf}, (∀ y ∈ l, y.es.length ≤ 4) → (l.flatMap (·.es)).length ≤ 4 * l.length := by
      intro l
      induction l with
      | nil => intro _; simp
      | cons y l ih =>
        intro h
        have a := ih fun z hz => h z (List.mem_cons_of_mem _ hz)
        have b := h y (by simp)
        rw [List.flatMap_cons, List.length_append, List.length_cons]; omega
    have h3 := h2 (l := ls) (fun y hy => (t.l y hy).2)
    simp only [List.length_cons, List.length_map]
    omega
theorem none_ok {U : Uz} {N : Nat} {s : St} {kvs : List En} {fr used : List Nat} {key : Bs} (ti : TInv U N s kvs fr used) (hr : s.root ≠ 0) (he : ∀ e ∈ kvs, e.k ≠ key) : ∃ n i, leafS N s key 3 s.root = some (n, i, false) := by
  have hfN := ti.fN
  have leaf : ∀ es : List En, (∀ e ∈ es, e.k ≠ key) → findP ⟨true, es⟩ key = ((findP ⟨true, es⟩ key).1, false) := fun es h => Prod.ext rfl (by
    show (es.any fun e => e.k == key) = false
    exact List.any_eq_false.2 fun e hm => by simpa using h e hm)
  rcases ti.sh with ⟨a, b, c⟩ | ⟨a, b, c, d⟩ | ⟨ls, t, hus, hkv⟩
  · exact absurd a hr
  · have hrm := ti.f.m s.root (by rw [d]; simp)
    refine ⟨⟨true, kvs⟩, (findP ⟨true, kvs⟩ key).1, ?_⟩
    unfold leafS
    rw [if_neg a, readS_eq (by omega) b]
    simp only [Option.bind_some, if_true]
    rw [leaf kvs he]
  · subst hus; subst hkv
    have hrm := ti.f.m s.root (by simp)
    obtain ⟨L1, x, L2, sp⟩ := spot_of (key := key) t.o t.h (fun e => by have := t.n; rw [e] at this; simp at this)
    have hxm : x ∈ ls := by rw [sp.e]; simp
    have hxp := ti.f.m x.pg (by simp; exact .inr (.inl ⟨x, hxm, rfl⟩))
    refine ⟨⟨true, x.es⟩, (findP ⟨true, x.es⟩ key).1, ?_⟩
    have hgi : (ls.map Lf.en)[(findP ⟨false, ls.map Lf.en⟩ key).1]? = some x.en := by
      rw [sp.i, sp.e, List.map_append, List.getElem?_append_right (by simp)]; simp
    rw [leafS, if_neg (by omega), readS_eq (by omega) t.r]
    simp only [Option.bind_some, Bool.false_eq_true, if_false]
    rw [hgi]
    simp only [Option.bind_some]
    rw [leafS, if_neg (by show ¬ x.pg = 0; omega), readS_eq (show x.en.pg < N by show x.pg < N; omega) (t.c x hxm)]
    simp only [Option.bind_some, if_true]
    rw [leaf x.es (fun e hm => he e (List.mem_flatMap.2 ⟨x, hxm, hm⟩))]
theorem there_ok {U : Uz} {N : Nat} {s : St} {kvs : List En} {fr used : List Nat} (ti : TInv U N s kvs fr used) {e : En} (he : e ∈ kvs) : ∃ n i, leafS N s e.k 3 s.root = some (n, i, true) := by
  obtain ⟨n, i, h, _⟩ := get_ok ti he
  exact ⟨n, i, h⟩
/-- While keys are put. -/
structure Sp (l : Bs) (s : St) (fr used : List Nat) (f0 : Nat) (i : Nat) : Prop where
  ti : TInv US 289 s (KV l i) fr used
  w : s.w = 0
  fr : fr.length ≤ f0
  rt : 0 < i → s.root ≠ 0
theorem KV_len {l : Bs} : ∀ {i : Nat}, Srt (KV l i) ∧ (KV l i).length ≤ i ∧ ∀ e ∈ KV l i, ∃ j, j < i ∧ l[j]?.map sk = some e.k
  | 0 => ⟨List.Pairwise.nil, Nat.le_refl _, fun e he => by simp [KV] at he⟩
  | i + 1 => by
    obtain ⟨a, b, c⟩ := KV_len (l := l) (i := i)
    by_cases h : i < l.length
    · rw [KV_succ h]
      refine ⟨ins_srt a, by have := (ins_len (key := sk l[i]) (val := zv) a).2.1; omega, fun e he => ?_⟩
      rcases ins_mem a he with rfl | he
      · exact ⟨i, by omega, by rw [List.getElem?_eq_getElem h]; rfl⟩
      · obtain ⟨j, h1, h2⟩ := c e he
        exact ⟨j, by omega, h2⟩
    · have : KV l (i + 1) = KV l i := by unfold KV; rw [List.take_of_length_le (by omega), List.take_of_length_le (by omega)]
      rw [this]
      refine ⟨a, by omega, fun e he => ?_⟩
      obtain ⟨j, h1, h2⟩ := c e he
      exact ⟨j, by omega, h2⟩
theorem Sp.fresh {l : Bs} {s : St} {fr used : List Nat} {f0 i : Nat} (h : Sp l s fr used f0 i) (hi : i ≤ 40) : used.length ≤ 21 ∧ s.fresh ≤ 22 + f0 := by
  have h1 := (used_bounds h.ti).1
  have h2 := (KV_len (l := l) (i := i)).2.1
  have h3 := h.ti.f.n
  have h4 := h.fr
  omega
theorem Sp.step {l : Bs} {s : St} {fr used : List Nat} {f0 i : Nat} (h : Sp l s fr used f0 i) (hi : i < 40) (hl : i < l.length) (hf : f0 ≤ 200) :
    ∃ s' fr' used', doS mendL 289 (putF (sk l[i]) zv) (sk l[i]) s = some s' ∧ Sp l { s' with w := 0 } fr' used' f0 (i + 1) := by
  have h2 := h.fresh (by omega)
  have h3 := (KV_len (l := l) (i := i + 1)).2.1
  rw [KV_succ hl] at h3
  obtain ⟨s', fr', used', hd, ti, hfr, hr, he⟩ := put_ok mendL_easy h.ti h.w (key := sk l[i]) (val := zv) rfl (by show (List.replicate 50 0).length = 50; simp) (by omega) (by omega) (by
    show (insL (sk l[i]) zv (KV l i)).length / 2 * 5 ≤ 253
    omega) (by decide)
  refine ⟨s', fr', used', hd, ⟨by rw [KV_succ hl]; exact ti.re, rfl, by have := h.fr; omega, fun _ => hr⟩⟩
/-- While keys are deleted. -/
structure Sd (l : Bs) (n : Nat) (s : St) (kvs : List En) (fr used : List Nat) (F : Nat) (i : Nat) : Prop where
  ti : TInv US 289 s kvs fr used
  w : s.w = 0
  fr : s.fresh ≤ F
  rt : i < n → s.root ≠ 0
  len : kvs.length ≤ 40
  has : ∀ e ∈ kvs, ∃ j, j < n ∧ l[j]?.map sk = some e.k
  no : ∀ j, j < i → ∀ e ∈ kvs, l[j]?.map sk ≠ some e.k
theorem Sd.of {l : Bs} {s : St} {fr used : List Nat} {f0 n : Nat} (h : Sp l s fr used f0 n) (hn : n ≤ 40) : Sd l n s (KV l n) fr used (22 + f0) 0 := by
  obtain ⟨a, b, c⟩ := KV_len (l := l) (i := n)
  exact ⟨h.ti, h.w, (h.fresh hn).2, fun hp => h.rt hp, by omega, c, fun j hj => by omega⟩
theorem Sd.step {l : Bs} {n : Nat} {s : St} {kvs : List En} {fr used : List Nat} {F i : Nat} (h : Sd l n s kvs fr used F i) (hF : F ≤ 280) (hi : i < n) (hl : i < l.length) :
    ((∃ nd ix, leafS 289 s (sk l[i]) 3 s.root = some (nd, ix, false)) ∧ Sd l n s kvs fr used F (i + 1)) ∨
    (∃ nd ix s' kvs' fr' used', leafS 289 s (sk l[i]) 3 s.root = some (nd, ix, true) ∧ doS mendL 289 (delG (sk l[i])) (sk l[i]) s = some s' ∧ Sd l n { s' with w := 0 } kvs' fr' used' F (i + 1)) := by
  have hlen := h.len
  by_cases hk : ∃ e ∈ kvs, e.k = sk l[i]
  · right
    obtain ⟨e, he, hek⟩ := hk
    obtain ⟨nd, ix, hlf⟩ := there_ok h.ti he
    obtain ⟨A, B, s', fr', used', hAB, hd, ti, hf, hr⟩ := del_ok (U := US) rfl rfl (by decide) h.ti he h.w (by have := h.fr; omega) (by omega) (by show kvs.length / 2 * 5 ≤ 253; omega)
    rw [hek] at hlf hd
    have hsub : (A ++ B).Sublist kvs := by rw [hAB]; exact List.Sublist.append (List.Sublist.refl _) (List.sublist_cons_self _ _)
    refine ⟨nd, ix, s', A ++ B, fr', used', hlf, hd, ti.re, rfl, by show s'.fresh ≤ F; rw [hf]; exact h.fr, fun _ => hr, by have := hsub.length_le; omega, fun e hm => h.has e (hsub.subset hm), fun j hj e' hm => ?_⟩
    by_cases hji : j < i
    · exact h.no j hji e' (hsub.subset hm)
    · have hji2 : j = i := by omega
      subst hji2
      rw [List.getElem?_eq_getElem hl]
      intro heq
      have heq : sk l[j] = e'.k := by simpa using heq
      have hs := h.ti.srt
      rw [hAB] at hs
      have hp := List.pairwise_append.1 hs
      have hp2 := List.pairwise_cons.1 hp.2.1
      rcases List.mem_append.1 hm with hm | hm
      · have := hp.2.2 e' hm e (by simp)
        rw [hek, heq, lexB_irrefl] at this; cases this
      · have := hp2.1 e' hm
        rw [hek, heq, lexB_irrefl] at this; cases this
  · left
    have hno : ∀ e ∈ kvs, e.k ≠ sk l[i] := fun e he hek => hk ⟨e, he, hek⟩
    refine ⟨none_ok h.ti (h.rt hi) hno, h.ti, h.w, h.fr, fun hp => h.rt (by omega), h.len, h.has, fun j hj e he => ?_⟩
    by_cases hji : j < i
    · exact h.no j hji e he
    · have hji2 : j = i := by omega
      subst hji2
      rw [List.getElem?_eq_getElem hl]
      intro heq
      have heq : sk l[j] = e.k := by simpa using heq
      exact hno e he heq.symm
/-- All are deleted. -/
theorem Sd.empty {l : Bs} {n : Nat} {s : St} {kvs : List En} {fr used : List Nat} {F : Nat} (h : Sd l n s kvs fr used F n) : kvs = [] ∧ used.length ≤ 1 ∧ fr.length ≤ F := by
  have hk : kvs = [] := by
    cases hk : kvs with
    | nil => rfl
    | cons e l2 =>
      obtain ⟨j, hj, he⟩ := h.has e (by rw [hk]; simp)
      exact absurd he (h.no j hj e (by rw [hk]; simp))
  subst hk
  have h1 := (used_bounds h.ti).1
  have h2 := h.ti.f.n
  have h3 := h.fr
  refine ⟨rfl, by simpa using h1, by omega⟩
theorem Sd.next {l : Bs} {n : Nat} {s : St} {kvs : List En} {fr used : List Nat} {F : Nat} (h : Sd l n s kvs fr used F n) : Sp l s fr used F 0 := by
  obtain ⟨rfl, h1, h2⟩ := h.empty
  exact ⟨h.ti, h.w, h2, fun hp => by omega⟩
theorem Sp.start (l : Bs) : Sp l s00 [] [] 0 0 := ⟨TInv.start (by omega), rfl, Nat.le_refl _, fun h => by omega⟩
end Go.Proofs.YtfaeklinhchidaaGreat
