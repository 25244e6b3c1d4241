/-
  A log: bytes in blocks; its small methods.
-/
import Derived.Test.YtfaeklinhchidaaGreatWalT
import Derived.Test.YtfaeklinhchidaaGreatSortK
import Derived.Test.YtfaeklinhchidaaGreatStrs
import Derived.Test.YtfaeklinhchidaaGreatTests
import Derived.Test.YtfaeklinhchidaaGreatPar
set_option linter.all false
set_option maxRecDepth 100000
namespace Go.Proofs.YtfaeklinhchidaaGreat
open Go Hold
variable {E : World0} {w : World} {H R X : HP} {K : Value → World → Prop}
theorem be_get (n : Nat) : ∀ (m j : Nat), (be m n)[j]? = if j < m then some (UInt8.ofNat (n / 256 ^ (m - 1 - j))) else none
  | 0, j => by simp [be]
  | m + 1, 0 => by simp [be]
  | m + 1, j + 1 => by
    simp only [be, List.getElem?_cons_succ]
    rw [be_get n m j]
    by_cases h : j < m
    · rw [if_pos h, if_pos (by omega), show m + 1 - 1 - (j + 1) = m - 1 - j by omega]
    · rw [if_neg h, if_neg (by omega)]
theorem bv_of (n : Nat) : Value.int .u8 (IntKind.u8.wrap (n : Int)) = bv (UInt8.ofNat n) := by
  have : IntKind.u8.wrap (n : Int) = ((n % 256 : Nat) : Int) := by rw [IntKind.wrap_u8]; omega
  rw [this]
  unfold bv
  congr 1
theorem cutA_some {b o c lo n : Nat} (h : c ≠ lo) : cutA (some ⟨b, o, none⟩) c lo n = some ⟨b, o + lo * n, none⟩ := by
  unfold cutA; rw [if_neg h, Option.map_some, add_addr]
/-- set: a number into bytes. -/
theorem set_spec (h : sat E w H) {b o m c n : Nat} {l : Bs} [s : Own H b (.cells (l.map bv).toArray 5 (0, 0)) R] (hm : m ≤ 8) (ho : o + m ≤ l.length)
    (k : ∀ w', sat E w' (pts b (.cells ((over l o (be m n)).map bv).toArray 5 (0, 0)) * R) → K (.tuple #[]) w') : Calls prog 93 #[.slice (some ⟨b, o, none⟩) m c, .int .i64 n] w (Ret K) := by
  refine c93 ?_
  unfold B93
  simp only [↓opsA, opsB, if_true, if_false, ↓reduceIte]
  refine lp_nat (fun q σ w => ∃ (i : Nat) (li : Bs), σ = [.int .i64 i] ∧ q = m - i ∧ i ≤ m ∧ li.length = l.length ∧
    (∀ j, li[j]? = if o + m - i ≤ j ∧ j < o + m then some (UInt8.ofNat (n / 256 ^ (o + m - 1 - j))) else l[j]?) ∧
    sat E w (pts b (.cells (li.map bv).toArray 5 (0, 0)) * R)) m ⟨0, l, rfl, rfl, by omega, rfl, fun j => by rw [if_neg (by omega)], h.own b⟩ ?_
  rintro q σ w again ⟨i, li, rfl, rfl, hi, hl, hg, h⟩ hag
  simp only [↓opsA, opsB, if_true, if_false, ↓reduceIte]
  refine cd_dec (fun hlt => ?_) (fun hge => ?_)
  · have hlt : i < m := by omega
    rw [i64_of (n := (m : Int) - 1) (by omega) (by omega), i64_of (n := (m : Int) - 1 - i) (by omega) (by omega), i64_of (n := 8 * (i : Int)) (by omega) (by omega), show (8 : Int) * (i : Int) = ((8 * i : Nat) : Int) by omega, o_shr (by show 8 * i ≤ 64; omega)]
    simp only [↓opsA, opsB, if_true, if_false, ↓reduceIte]
    rw [bv_of, show (m : Int) - 1 - (i : Int) = ((m - 1 - i : Nat) : Int) by omega, o_index (by omega) (by omega)]
    simp only [Int.toNat_natCast, Nat.mul_one]
    refine store_sl h rfl (by rw [List.length_map]; omega) fun w h => ?_
    rw [i64_of (by omega) (by omega), ← List.map_set] at *
    refine hag (m - (i + 1)) _ _ (by omega) ⟨i + 1, _, rfl, rfl, by omega, by rw [List.length_set, hl], fun j => ?_, h⟩
    rw [List.getElem?_set]
    by_cases e : o + (m - 1 - i) = j
    · rw [if_pos e, if_pos (by omega), if_pos (by omega), Nat.pow_mul, show o + m - 1 - j = i by omega]
    · rw [if_neg e, hg]
      by_cases e2 : o + m - i ≤ j ∧ j < o + m
      · rw [if_pos e2, if_pos (by omega)]
      · rw [if_neg e2, if_neg (by omega)]
  · have : i = m := by omega
    subst this
    have e : li = over l o (be i n) := by
      refine List.ext_getElem? fun j => ?_
      rw [hg]
      unfold over
      rw [be_length]
      by_cases h1 : j < o
      · rw [if_neg (by omega), List.append_assoc, List.getElem?_append_left (by simp; omega), List.getElem?_take_of_lt h1]
      · by_cases h2 : j < o + i
        · rw [if_pos (by omega), List.getElem?_append_left (by simp [be_length]; omega), List.getElem?_append_right (by simp; omega)]
          simp only [List.length_take]
          rw [show j - min o l.length = j - o by omega, be_get, if_pos (by omega), show o + i - 1 - j = i - 1 - (j - o) by omega]
        · rw [if_neg (by omega), List.getElem?_append_right (by simp [be_length]; omega), List.getElem?_drop]
          simp only [List.length_append, List.length_take, be_length]
          rw [show o + i + (j - (min o l.length + i)) = j by omega]
    subst e
    exact k _ h
/-! ### zeros, two, get -/
theorem isNz_spec {x : UInt8} (k : K (.bool !(decide (x = 0))) w) : Calls prog 75 #[bv x] w (Ret K) := by
  refine c75 ?_
  unfold B75
  simp only [bv, ↓opsA, opsB, if_true, if_false, ↓reduceIte]
  have : decide ((x.toNat : Int) = 0) = decide (x = 0) := by
    by_cases h : x = 0
    · subst h; rfl
    · rw [decide_eq_false h, decide_eq_false]
      intro h2
      exact h (UInt8.toNat_inj.1 (by simpa using h2))
  rw [this]
  exact k
theorem zeros_spec (h : sat E w H) {v : Value} {l : Bs} (hv : Rds H v l.length (l.map bv)) (hl : l.length ≤ 100000) (k : ∀ w', sat E w' H → K (.bool (l.all fun x => decide (x = 0))) w') : Calls prog 42 #[v] w (Ret K) := by
  obtain ⟨a, c, rfl, hc, hv, ha⟩ := hv.shape h
  refine c42 ?_
  unfold B42
  refine c74 ?_
  unfold B74
  refine c115 ?_
  unfold B115
  simp only [↓opsA, opsB, if_true, if_false, ↓reduceIte]
  refine lp_nat (fun q σ w => ∃ i : Nat, σ = [.int .i64 i] ∧ q = l.length - i ∧ i ≤ l.length ∧ ((l.take i).all fun x => decide (x = 0)) = true ∧ sat E w H) l.length ⟨0, rfl, rfl, by omega, by simp, h⟩ ?_
  rintro q σ w again ⟨i, rfl, rfl, hi, hz, h⟩ hag
  simp only [↓opsA, opsB, if_true, if_false, ↓reduceIte]
  refine cd_dec (fun hlt => ?_) (fun hge => ?_)
  · have hlt : i < l.length := by omega
    obtain ⟨b1, o1, rfl, hb1⟩ := win_cell (hv.win h) (j := i) (by simpa using hlt)
    rw [o_index (by omega) (by omega)]
    simp only [Int.toNat_natCast, Nat.mul_one]
    refine ld_cell hb1 ?_
    rw [List.getElem_map]
    refine oCall_body Tryz.func75 (by kernel_rfl) (by kernel_rfl) ?_
    refine isNz_spec ?_
    by_cases hx : l[i] = 0
    · simp only [hx, decide_true, Bool.not_true, cd_false, ↓opsA, opsB, if_true, if_false, ↓reduceIte]
      rw [i64_of (by omega) (by omega)]
      refine hag (l.length - (i + 1)) _ _ (by omega) ⟨i + 1, rfl, rfl, by omega, ?_, h⟩
      rw [List.take_succ_eq_append_getElem hlt, List.all_append, hz]
      simp [hx]
    · simp only [hx, ↓opsA, opsB, if_true, if_false, ↓reduceIte]
      have h1 : (0 : Int) ≤ i := by omega
      simp only [h1, ↓opsA, opsB, if_true, if_false, ↓reduceIte]
      have : (l.all fun x => decide (x = 0)) = false := by
        rw [Bool.eq_false_iff]
        intro h2
        have := List.all_eq_true.1 h2 l[i] (List.getElem_mem hlt)
        exact hx (by simpa using this)
      rw [this] at k
      exact k w h
  · have : i = l.length := by omega
    subst this
    rw [List.take_length] at hz
    have h1 : ¬ (0 : Int) ≤ -1 := by omega
    simp only [h1, ↓opsA, opsB, if_true, if_false, ↓reduceIte]
    rw [hz] at k
    exact k w h
theorem or_nat {a b : Nat} (hb : b < 256) : a * 256 ||| b = a * 256 + b := by
  have := Nat.shiftLeft_add_eq_or_of_lt (i := 8) (b := b) (by omega) a
  rw [Nat.shiftLeft_eq] at this
  exact this.symm
theorem o_or8 {t : TypeId} {a b : Nat} (ha : a < 2 ^ 54) (hb : b < 256) : pvv prog (binOp .or t (.int .i64 ((a * 256 : Nat) : Int)) (.int .i64 (b : Int))) w K = K (.int .i64 ((a * 256 + b : Nat) : Int)) w := pvv_eq fun w => by
  have e : (IntKind.i64.wrap ((BitVec.ofInt 64 ((a * 256 : Nat) : Int) ||| BitVec.ofInt 64 (b : Int)).toNat : Int)) = ((a * 256 + b : Nat) : Int) := by
    rw [BitVec.ofInt_natCast, BitVec.ofInt_natCast, BitVec.toNat_or, BitVec.toNat_ofNat, BitVec.toNat_ofNat, Nat.mod_eq_of_lt (by omega), Nat.mod_eq_of_lt (by omega), or_nat hb]
    exact i64_of (by omega) (by omega)
  show (pure (.int .i64 (IntKind.i64.wrap ((BitVec.ofInt 64 ((a * 256 : Nat) : Int) ||| BitVec.ofInt 64 (b : Int)).toNat : Int))) : Sem Value).run prog w = _
  rw [e]; rfl
/-- two: two bytes of a slice. -/
theorem two_spec (h : sat E w H) {b o m c : Nat} {xs : List Value} {x y : UInt8} [s : Has H b (.cells xs.toArray 5 (0, 0))] (hm : 2 ≤ m) (hx : xs[o]? = some (bv x)) (hy : xs[o + 1]? = some (bv y))
    (k : ∀ w', sat E w' H → K (.int .i64 ((x.toNat * 256 + y.toNat : Nat) : Int)) w') : Calls prog 44 #[.slice (some ⟨b, o, none⟩) m c] w (Ret K) := by
  have hx8 := x.toNat_lt
  have hy8 := y.toNat_lt
  refine c44 ?_
  unfold B44
  refine dr_sl h fun w h _ => ?_
  rw [o_index (by omega) (by omega)]
  simp only [↓opsA, opsB, if_true, if_false, ↓reduceIte, Int.toNat_zero, Nat.zero_mul, Nat.add_zero]
  rw [o_index (by omega) (by omega)]
  simp only [↓opsA, opsB, if_true, if_false, ↓reduceIte, show (1 : Int).toNat * 1 = 1 from rfl]
  refine ld_in h hx ?_
  simp only [bv, ↓opsA, opsB, if_true, if_false, ↓reduceIte]
  rw [i64_of (by omega) (by omega), show (8 : Int) = ((8 : Nat) : Int) from rfl, o_shl (by decide)]
  refine ld_in h hy ?_
  simp only [bv, ↓opsA, opsB, if_true, if_false, ↓reduceIte]
  rw [i64_of (by omega) (by omega), i64_of (by omega) (by omega), show (x.toNat : Int) * 2 ^ 8 = ((x.toNat * 256 : Nat) : Int) by omega, o_or8 (by omega) (by omega)]
  exact k w h
/-- get: the bytes of a number. -/
theorem get_spec (h : sat E w H) {b o c n : Nat} {xs : List Value} [s : Has H b (.cells xs.toArray 5 (0, 0))] (hx : ∀ j, j < 8 → xs[o + j]? = some (bv (UInt8.ofNat (n / 256 ^ (7 - j))))) (hn : n < 2 ^ 62)
    (k : ∀ w', sat E w' H → K (.int .i64 n) w') : Calls prog 43 #[.slice (some ⟨b, o, none⟩) 8 c] w (Ret K) := by
  refine c43 ?_
  unfold B43
  simp only [↓opsA, opsB, if_true, if_false, ↓reduceIte]
  refine lp_nat (fun q σ w => ∃ i : Nat, σ = [.int .i64 ((n / 256 ^ (8 - i) : Nat) : Int), .int .i64 i] ∧ q = 8 - i ∧ i ≤ 8 ∧ sat E w H) 8 ⟨0, ?_, rfl, by omega, h⟩ ?_
  · rw [Nat.sub_zero, Nat.div_eq_of_lt (by omega)]; rfl
  rintro q σ w again ⟨i, rfl, rfl, hi, h⟩ hag
  simp only [↓opsA, opsB, if_true, if_false, ↓reduceIte]
  refine cd_dec (fun hlt => ?_) (fun hge => ?_)
  · have hlt : i < 8 := by omega
    rw [o_index (by omega) (by omega)]
    simp only [Int.toNat_natCast, Nat.mul_one]
    refine ld_in h (hx i hlt) ?_
    have hag0 : again [.int .i64 ((n / 256 ^ (8 - (i + 1)) : Nat) : Int), .int .i64 ((i : Int) + 1)] w := hag (8 - (i + 1)) _ _ (by omega) ⟨i + 1, rfl, rfl, by omega, h⟩
    have hq : n / 256 ^ (8 - i) < 2 ^ 54 := by
      refine Nat.lt_of_le_of_lt (Nat.div_le_div_left (c := 256) ?_ (by decide)) (by omega)
      rw [show 8 - i = (8 - i - 1) + 1 by omega, Nat.pow_succ]
      exact Nat.le_mul_of_pos_left _ (Nat.pos_of_ne_zero (by simp))
    have hb : (UInt8.ofNat (n / 256 ^ (7 - i))).toNat = n / 256 ^ (7 - i) % 256 := by simp
    have e : n / 256 ^ (8 - i) * 256 + n / 256 ^ (7 - i) % 256 = n / 256 ^ (8 - (i + 1)) := by
      rw [show 8 - (i + 1) = 7 - i by omega, show 8 - i = (7 - i) + 1 by omega, Nat.pow_succ, ← Nat.div_div_eq_div_mul]
      omega
    have hr : n / 256 ^ (7 - i) % 256 < 256 := Nat.mod_lt _ (by decide)
    rw [← e] at hag0
    generalize n / 256 ^ (8 - i) = q at hq hag0 ⊢
    simp only [bv]
    rw [hb]
    generalize n / 256 ^ (7 - i) % 256 = r at hr hag0 ⊢
    rw [show (8 : Int) = ((8 : Nat) : Int) from rfl, o_shl (by decide), i64_of (by omega) (by omega), show (q : Int) * 2 ^ 8 = ((q * 256 : Nat) : Int) by omega]
    simp only [↓opsA, opsB, if_true, if_false, ↓reduceIte]
    rw [i64_of (n := (r : Int)) (by omega) (by omega), o_or8 hq hr, i64_of (by omega) (by omega)]
    exact hag0
  · have : i = 8 := by omega
    subst this
    simp only [Nat.sub_self, Nat.pow_zero, Nat.div_one]
    exact k w h
/-! ### The log as it is held -/
def mpA (l : List (Int × Int)) : List (Int × Value) := l.map fun x => (x.1, iv x.2)
theorem mpA_put (k v : Int) : ∀ l, putM (mpA l) k (iv v) = mpA (putA l k v)
  | [] => rfl
  | x :: l => by
    have := mpA_put k v l
    unfold mpA at this ⊢
    simp only [List.map_cons, putM, putA]
    split
    · rfl
    · simp only [List.map_cons, this]
theorem mpA_look (k : Int) : ∀ l, lookM (mpA l) k = (lookA l k).map iv
  | [] => rfl
  | x :: l => by
    have := mpA_look k l
    unfold lookM mpA at this ⊢
    simp only [List.map_cons, findM, lookA]
    by_cases h : k = x.1
    · simp [h]
    · rw [if_neg h, if_neg h, Option.map_map, ← this]
      rfl
theorem mpA_keys (l : List (Int × Int)) : (mpA l).map (·.1) = l.map (·.1) := by simp [mpA]
theorem mpA_length (l : List (Int × Int)) : (mpA l).length = l.length := by simp [mpA]
def lcells (S : Lg) (d b : Nat) : List Value := [.pointer (some ⟨d, 0, none⟩), .int .i64 S.size, .int .i64 S.groups, .int .i64 S.used, .map (some b)]
abbrev lgI (p d b : Nat) (S : Lg) (R : HP) : HP := pts p (.cells (lcells S d b).toArray 114 (0, 0)) * (dsk d S.L S.W * (omap b (mpA S.a) * R))
theorem lg_in {p d b : Nat} {S : Lg} (h : sat E w (X * lgI p d b S R)) : sat E w (lgI p d b S (X * R)) := by
  unfold lgI at h ⊢
  exact h.perm (by ac_rfl)
theorem lg_out {p d b : Nat} {S : Lg} (h : sat E w (lgI p d b S (X * R))) : sat E w (X * lgI p d b S R) := by
  unfold lgI at h ⊢
  exact h.perm (by ac_rfl)
theorem Pages_spec {p d b : Nat} {S : Lg} (h : sat E w (lgI p d b S R)) (hs : S.size + 1 ≤ S.L.length) (hl : S.L.length ≤ 1024) (k : ∀ w', sat E w' (lgI p d b S R) → K (.int .i64 S.pages) w') : Calls prog 28 #[.pointer (some ⟨p, 0, none⟩)] w (Ret K) := by
  unfold lgI lcells at *
  refine c28 ?_
  unfold B28
  simp only [↓opsA, opsB, if_true, if_false, ↓reduceIte]
  refine dr_sl h fun w h _ => ?_
  refine ld_at h ?_
  refine ld_at h ?_
  refine Blocks_spec h ?_
  refine st_at h ?_
  simp only [↓opsA, opsB, if_true, if_false, ↓reduceIte]
  rw [i64_of (n := (S.L.length : Int) - S.size) (by omega) (by omega), i64_of (by omega) (by omega), show (S.L.length : Int) - (S.size : Int) - 1 = ((S.pages : Nat) : Int) by unfold Lg.pages; omega]
  exact k w h
theorem place_spec {p d b : Nat} {S : Lg} (h : sat E w (lgI p d b S R)) {n : Nat} (hs : S.size ≤ 1024) (hn : n ≤ 1024) (ha : ∀ v, lookA S.a n = some v → 0 ≤ v) (k : K (.int .i64 (S.place n)) w) : Calls prog 127 #[.pointer (some ⟨p, 0, none⟩), .int .i64 n] w (Ret K) := by
  unfold lgI lcells at *
  refine c127 ?_
  unfold B127
  simp only [↓opsA, opsB, if_true, if_false, ↓reduceIte]
  refine ld_at h ?_
  refine look_ld h ?_
  rw [mpA_look]
  unfold Lg.place at k
  cases e : lookA S.a n with
  | some v =>
    rw [e] at k
    simp only [Int.toNat_of_nonneg (ha v e)] at k
    simp only [Option.map_some, Option.getD_some, Option.isSome_some, iv, ↓opsA, opsB, if_true, if_false, ↓reduceIte]
    exact k
  | none =>
    rw [e] at k
    simp only [Option.map_none, Option.getD_none, Option.isSome_none, ↓opsA, opsB, if_true, if_false, ↓reduceIte]
    refine ld_at h ?_
    simp only [↓opsA, opsB, if_true, if_false, ↓reduceIte]
    rw [i64_of (n := (S.size : Int) + 1) (by omega) (by omega), i64_of (by omega) (by omega), show (S.size : Int) + 1 + (n : Int) = ((S.size + 1 + n : Nat) : Int) by omega]
    exact k
theorem Need_spec {n : Int} (k : K (.int .i64 (if n < 1 ∨ 100 < n then 0 else n + 1)) w) : Calls prog 92 #[.int .i64 n] w (Ret K) := by
  refine c92 ?_
  unfold B92
  rw [o_lss]
  by_cases h1 : n < 1
  · simp only [h1, true_or, if_true] at k
    simp only [h1, ↓opsA, opsB, if_true, if_false, ↓reduceIte]
    exact k
  · by_cases h2 : 100 < n
    · simp only [h2, or_true, if_true] at k
      simp only [h1, h2, ↓opsA, opsB, if_true, if_false, ↓reduceIte]
      exact k
    · simp only [h1, h2, or_self, if_false] at k
      simp only [h1, h2, ↓opsA, opsB, if_true, if_false, ↓reduceIte]
      rw [i64_of (by omega) (by omega)]
      exact k
theorem Read_ok {p d b : Nat} {S : Lg} (h : sat E w (lgI p d b S R)) {n : Nat} (hs : S.size + 1 ≤ S.L.length) (hl : S.L.length ≤ 1024) (hn : n < S.pages) (hb : ∀ l ∈ S.L, l.length = 256)
    (ha : ∀ v, lookA S.a n = some v → 0 ≤ v) (hp : S.place n < S.L.length) (k : ∀ v w', sat E w' (osl 5 1 v 256 ((S.L.getD (S.place n) []).map bv) * lgI p d b S R) → K (.tuple #[v, .int .i64 0]) w') :
    Calls prog 99 #[.pointer (some ⟨p, 0, none⟩), .int .i64 n] w (Ret K) := by
  have hpg : S.pages ≤ 1024 := by unfold Lg.pages; omega
  refine c99 ?_
  unfold B99
  have h1 : ¬ (n : Int) < 0 := by omega
  have h2 : ¬ (S.pages : Int) ≤ (n : Int) := by omega
  simp only [h1, ↓opsA, opsB, if_true, if_false, ↓reduceIte]
  refine Pages_spec h hs hl fun w h => ?_
  simp only [h2, ↓opsA, opsB, if_true, if_false, ↓reduceIte]
  refine dr_sl h fun w h _ => ?_
  unfold lgI lcells at h
  refine ld_at h ?_
  refine place_spec (p := p) (d := d) (b := b) (S := S) (R := R) h (by omega) (by omega) ha ?_
  refine st_at h ?_
  have hlen : S.L[S.place n].length = 256 := hb _ (List.getElem_mem hp)
  refine Read_spec h hp (by omega) fun v w h => ?_
  simp only [↓opsA, opsB, if_true, if_false, ↓reduceIte]
  rw [hlen] at h
  have e : S.L.getD (S.place n) [] = S.L[S.place n] := by rw [List.getD_eq_getElem?_getD, List.getElem?_eq_getElem hp]; rfl
  rw [e] at k
  refine k v w ?_
  unfold lgI lcells
  exact h.perm (by ac_rfl)
end Go.Proofs.YtfaeklinhchidaaGreat
