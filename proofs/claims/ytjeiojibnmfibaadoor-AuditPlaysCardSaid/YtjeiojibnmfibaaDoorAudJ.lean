/-
  Events of a chain; numbers as texts, the reference's; the hash behind an event.
-/
import Derived.Test.YtjeiojibnmfibaaDoorPB
import Derived.Test.YtjeiojibnmfibaaDoorRChain
import Derived.Test.YtjeiojibnmfibaaDoorCodF
import Derived.Test.YtjeiojibnmfibaaDoorStructs
set_option linter.all false
set_option maxRecDepth 10000
namespace Go.Proofs.YtjeiojibnmfibaaDoor
open Go Hold
variable {E : World0} {w : World} {H R : HP} {K : Value → World → Prop}
theorem Dbt.up {H0 H1 R1 : HP} (h : Dbt H1) [s : Split H0 H1 R1] : Dbt H0 := fun E w hs => h E w (hs.split H1).drop'
theorem digit_spec {n : Nat} (hn : n < 16) (k : K (bv (dig n)) w) : Calls prog 70 #[.int .i64 (n : Int)] w (Ret K) := by
  refine c70 ?_
  unfold B70
  have e : (.string ⟨#[48, 49, 50, 51, 52, 53, 54, 55, 56, 57, 97, 98, 99, 100, 101, 102]⟩ : Value) = tv digs := rfl
  rw [e, o_indexT (by omega) (by rw [Int.toNat_natCast]; exact hn)]
  exact k
theorem RNumber_spec (h : sat E w H) {n : Int} (k : ∀ w', sat E w' H → K (nv2 (number n)) w') : Calls prog 58 #[.int .i64 n] w (Ret K) := by
  refine c58 ?_
  unfold B58
  rw [o_lss]
  by_cases h1 : n < 0
  · simp only [h1, ↓o_nil, ↓o_field, ↓o_add, ↓o_sub, ↓o_mul, ↓o_lss, ↓o_leq, ↓o_gtr, ↓o_geq, ↓o_not, ↓o_pick, ↓o_eqInt, ↓o_neInt, ↓o_eqBool, ↓o_neBool, ↓o_eqPtr, ↓o_nePtr, ↓o_eqPtr', ↓o_eqSl, ↓o_neSl, ↓o_eqStr, ↓o_neStr, ↓o_len, ↓o_lenS, ↓o_min, ↓o_max, ↓o_extract, ↓o_convInt, ↓cd_true, ↓cd_false, ↓gate_tt, ↓gate_ff, ↓gate_tf, ↓gate_ft, ↓gate_undef, ↓o_bind, ↓stay_v, ↓pop_cons, ↓fin_nil, Option.isNone_none, Option.isNone_some, Bool.not_true, Bool.not_false, Nat.zero_add, decide_true, decide_false, if_true, if_false, Bool.false_eq_true, ↓reduceIte]
    have e : number n = ([], 2) := by unfold number; rw [if_pos (.inl h1)]
    rw [e] at k
    exact k _ h
  simp only [h1, ↓o_nil, ↓o_field, ↓o_add, ↓o_sub, ↓o_mul, ↓o_lss, ↓o_leq, ↓o_gtr, ↓o_geq, ↓o_not, ↓o_pick, ↓o_eqInt, ↓o_neInt, ↓o_eqBool, ↓o_neBool, ↓o_eqPtr, ↓o_nePtr, ↓o_eqPtr', ↓o_eqSl, ↓o_neSl, ↓o_eqStr, ↓o_neStr, ↓o_len, ↓o_lenS, ↓o_min, ↓o_max, ↓o_extract, ↓o_convInt, ↓cd_true, ↓cd_false, ↓gate_tt, ↓gate_ff, ↓gate_tf, ↓gate_ft, ↓gate_undef, ↓o_bind, ↓stay_v, ↓pop_cons, ↓fin_nil, Option.isNone_none, Option.isNone_some, Bool.not_true, Bool.not_false, Nat.zero_add, decide_true, decide_false, if_true, if_false, Bool.false_eq_true, ↓reduceIte]
  by_cases h2 : 4611686018427387904 < n
  · simp only [h2, ↓o_nil, ↓o_field, ↓o_add, ↓o_sub, ↓o_mul, ↓o_lss, ↓o_leq, ↓o_gtr, ↓o_geq, ↓o_not, ↓o_pick, ↓o_eqInt, ↓o_neInt, ↓o_eqBool, ↓o_neBool, ↓o_eqPtr, ↓o_nePtr, ↓o_eqPtr', ↓o_eqSl, ↓o_neSl, ↓o_eqStr, ↓o_neStr, ↓o_len, ↓o_lenS, ↓o_min, ↓o_max, ↓o_extract, ↓o_convInt, ↓cd_true, ↓cd_false, ↓gate_tt, ↓gate_ff, ↓gate_tf, ↓gate_ft, ↓gate_undef, ↓o_bind, ↓stay_v, ↓pop_cons, ↓fin_nil, Option.isNone_none, Option.isNone_some, Bool.not_true, Bool.not_false, Nat.zero_add, decide_true, decide_false, if_true, if_false, Bool.false_eq_true, ↓reduceIte]
    have e : number n = ([], 2) := by unfold number; rw [if_pos (.inr h2)]
    rw [e] at k
    exact k _ h
  simp only [h2, ↓o_nil, ↓o_field, ↓o_add, ↓o_sub, ↓o_mul, ↓o_lss, ↓o_leq, ↓o_gtr, ↓o_geq, ↓o_not, ↓o_pick, ↓o_eqInt, ↓o_neInt, ↓o_eqBool, ↓o_neBool, ↓o_eqPtr, ↓o_nePtr, ↓o_eqPtr', ↓o_eqSl, ↓o_neSl, ↓o_eqStr, ↓o_neStr, ↓o_len, ↓o_lenS, ↓o_min, ↓o_max, ↓o_extract, ↓o_convInt, ↓cd_true, ↓cd_false, ↓gate_tt, ↓gate_ff, ↓gate_tf, ↓gate_ft, ↓gate_undef, ↓o_bind, ↓stay_v, ↓pop_cons, ↓fin_nil, Option.isNone_none, Option.isNone_some, Bool.not_true, Bool.not_false, Nat.zero_add, decide_true, decide_false, if_true, if_false, Bool.false_eq_true, ↓reduceIte]
  obtain ⟨n, rfl⟩ := Int.eq_ofNat_of_zero_le (show 0 ≤ n by omega)
  have e : number (n : Int) = (numText n, 0) := by unfold number; rw [if_neg (by omega)]; rfl
  rw [e] at k
  have hlen : (hexs n).length ≤ 16 := hexs_length 16 n (by show n < 16 ^ 16; omega)
  refine lp_nat (fun q σ w => ∃ (m : Nat) (s : List UInt8), σ = [.int .i64 (m : Int), tv s, .int .i64 (s.length : Int)] ∧ q = m ∧ m ≤ n ∧ hexs n = hexs m ++ s ∧ sat E w H) n ⟨n, [], rfl, rfl, Nat.le_refl _, by simp, h⟩ ?_
  clear h
  rintro m σ w again ⟨_, s, rfl, rfl, hm, hs, h⟩ hag
  have hl : s.length ≤ 16 := by rw [hs, List.length_append] at hlen; omega
  rw [pop_cons, pop_cons, pop_cons, fin_nil, o_gtr]
  refine cd_dec (fun hlt => ?_) (fun hge => ?_)
  · rw [o_rem (by decide)]
    have e1 : (m : Int).tmod 16 = ((m % 16 : Nat) : Int) := by rw [Int.tmod_eq_emod_of_nonneg (by omega)]; omega
    rw [e1]
    refine digit_spec (by omega) ?_
    refine buildSlice_sl (e := 5) (cs := #[bv (dig (m % 16))]) h (fun w => by kernel_rfl) fun b1 w h => ?_
    refine conv_bs (l := [dig (m % 16)]) ((rds_row (b := b1) (e := 5) (xs := [bv (dig (m % 16))]) (sp := []) (Nat.le_refl _)) _ _ h) ?_
    have e3 : (.string ⟨[dig (m % 16)].toArray⟩ : Value) = tv [dig (m % 16)] := rfl
    rw [e3, o_catT (by simp; omega), o_add, i64_of (by omega) (by omega), o_quo (by decide)]
    have e2 : (m : Int).tdiv 16 = ((m / 16 : Nat) : Int) := by rw [Int.tdiv_eq_ediv_of_nonneg (by omega)]; omega
    rw [e2, i64_of (by omega) (by omega)]
    refine hag (m / 16) _ _ (by omega) ⟨m / 16, dig (m % 16) :: s, ?_, rfl, by omega, ?_, h.drop⟩
    · simp only [List.length_cons, List.cons_append, List.nil_append]; congr 1
    · rw [hs, hexs_pos (show m ≠ 0 by omega)]; simp
  · have h0 : m = 0 := by omega
    subst h0
    rw [hexs_zero, List.nil_append] at hs
    rw [o_add, i64_of (by omega) (by omega), o_convInt, show (97 : Int) + (s.length : Int) = ((97 + s.length : Nat) : Int) by omega, bv_len (show 97 + s.length < 256 by omega)]
    refine buildSlice_sl (e := 5) (cs := #[bv (UInt8.ofNat (97 + s.length))]) h (fun w => by kernel_rfl) fun b1 w h => ?_
    refine conv_bs (l := [UInt8.ofNat (97 + s.length)]) ((rds_row (b := b1) (e := 5) (xs := [bv (UInt8.ofNat (97 + s.length))]) (sp := []) (Nat.le_refl _)) _ _ h) ?_
    have e3 : (.string ⟨[UInt8.ofNat (97 + s.length)].toArray⟩ : Value) = tv [UInt8.ofNat (97 + s.length)] := rfl
    rw [e3, o_catT (by simp; omega)]
    have e4 : [UInt8.ofNat (97 + s.length)] ++ s = numText n := by unfold numText; rw [hs]; rfl
    rw [e4]
    exact k _ h.drop
def numT (n : Int) : List UInt8 := (number n).1
theorem num_spec (h : sat E w H) (hd : Dbt H) {n : Int} (k : ∀ w', sat E w' H → K (tv (numT n)) w') : Calls prog 39 #[.int .i64 n] w (Ret K) := by
  refine c39 ?_
  unfold B39
  refine Number_spec h hd fun w h => ?_
  unfold nv2
  rw [o_extract, o_extract]
  exact k _ h
theorem Num_spec (h : sat E w H) {n : Int} (k : ∀ w', sat E w' H → K (tv (numT n)) w') : Calls prog 49 #[.int .i64 n] w (Ret K) := by
  refine c49 ?_
  unfold B49
  refine RNumber_spec h fun w h => ?_
  unfold nv2
  rw [o_extract, o_extract]
  exact k _ h
/-- An event. -/
structure Evt where
  n : Int
  t : Int
  what : List UInt8
  who : List UInt8
  deriving DecidableEq
def ecells (x : Evt) : List Value := [.int .i64 x.n, .int .i64 x.t, tv x.what, tv x.who]
def ev (x : Evt) : Value := .agg (ecells x).toArray
def evs (l : List Evt) : List Value := l.flatMap ecells
def zeroE : Evt := ⟨0, 0, [], []⟩
theorem ecells_one (x : Evt) : ∀ v ∈ ecells x, v.oneCell' = true := by
  intro v hv
  simp [ecells] at hv
  rcases hv with rfl | rfl | rfl | rfl <;> rfl
theorem evs_one (l : List Evt) : ∀ v ∈ evs l, v.oneCell' = true := by
  intro v hv
  obtain ⟨x, _, hx⟩ := List.mem_flatMap.1 hv
  exact ecells_one x v hx
theorem evs_length : ∀ (l : List Evt), (evs l).length = l.length * 4
  | [] => rfl
  | x :: l => by
    have := evs_length l
    simp only [evs, List.flatMap_cons, List.length_append, List.length_cons] at this ⊢
    rw [this]; simp [ecells]; omega
theorem evs_append (a b : List Evt) : evs (a ++ b) = evs a ++ evs b := by simp [evs]
theorem evs_drop : ∀ (l : List Evt) (i : Nat), (evs l).drop (i * 4) = evs (l.drop i)
  | l, 0 => by simp
  | [], i + 1 => by simp [evs]
  | x :: l, i + 1 => by
    have e : evs (x :: l) = ecells x ++ evs l := rfl
    rw [e, List.drop_append, show (i + 1) * 4 = i * 4 + 4 by omega]
    simp [ecells, evs_drop l i]
theorem evs_at {l : List Evt} {i : Nat} {x : Evt} (h : l[i]? = some x) : ((evs l).drop (i * 4)).take 4 = ecells x := by
  rw [evs_drop]
  have hlt := (List.getElem?_eq_some_iff.1 h).1
  rw [List.drop_eq_getElem_cons hlt, (List.getElem?_eq_some_iff.1 h).2]
  rfl
def colsE (x : Evt) : List (List UInt8) := [numT x.n, numT x.t, x.what, x.who]
def rowE (x : Evt) : List UInt8 := (row (colsE x)).1
def nx (h : List UInt8) (x : Evt) : List UInt8 := sha (h ++ rowE x)
theorem nx_length (h : List UInt8) (x : Evt) : (nx h x).length = 32 := sha_length _
theorem row_le (cs : List (List UInt8)) : (row cs).1.length ≤ 72 := by
  unfold row
  split
  · simp
  · split
    · split
      · simp
      · simp only; omega
    · simp
theorem next_spec (h : sat E w H) (hd : Dbt H) {l : List UInt8} (hl : l.length = 32) {x : Evt} (k : ∀ w', sat E w' H → K (.agg ((nx l x).map bv).toArray) w') : Calls prog 31 #[.agg (l.map bv).toArray, ev x] w (Ret K) := by
  refine c31 ?_
  unfold B31
  refine box_sl h fun b1 w h => ?_
  have h : sat E w (pts b1 (.cells (l.map bv).toArray 36 (0, 0)) * H) := h
  refine box_sl h fun b2 w h => ?_
  have h : sat E w (pts b2 (.cells (ecells x).toArray 34 (0, 0)) * (pts b1 (.cells (l.map bv).toArray 36 (0, 0)) * H)) := h
  refine alloc_sl h fun b3 w h => ?_
  have h : sat E w (pts b3 (.cells ((List.replicate 32 (0 : UInt8)).map bv).toArray 36 (0, 0)) * (pts b2 (.cells (ecells x).toArray 34 (0, 0)) * (pts b1 (.cells (l.map bv).toArray 36 (0, 0)) * H))) := h
  refine dr_sl h fun w h _ => ?_
  simp only [↓o_nil, ↓o_field, ↓o_add, ↓o_sub, ↓o_mul, ↓o_lss, ↓o_leq, ↓o_gtr, ↓o_geq, ↓o_not, ↓o_pick, ↓o_eqInt, ↓o_neInt, ↓o_eqBool, ↓o_neBool, ↓o_eqPtr, ↓o_nePtr, ↓o_eqPtr', ↓o_eqSl, ↓o_neSl, ↓o_eqStr, ↓o_neStr, ↓o_len, ↓o_lenS, ↓o_min, ↓o_max, ↓o_extract, ↓o_convInt, ↓cd_true, ↓cd_false, ↓gate_tt, ↓gate_ff, ↓gate_tf, ↓gate_ft, ↓gate_undef, ↓o_bind, ↓stay_v, ↓pop_cons, ↓fin_nil, Option.isNone_none, Option.isNone_some, Bool.not_true, Bool.not_false, Nat.zero_add, decide_true, decide_false, if_true, if_false, Bool.false_eq_true, ↓reduceIte]
  refine ld_in (b := b2) (v := .int .i64 x.n) h rfl ?_
  refine ld_in (b := b2) (v := .int .i64 x.t) h rfl ?_
  refine ld_in (b := b2) (v := tv x.what) h rfl ?_
  refine ld_in (b := b2) (v := tv x.who) h rfl ?_
  have hd3 : Dbt (pts b3 (.cells ((List.replicate 32 (0 : UInt8)).map bv).toArray 36 (0, 0)) * (pts b2 (.cells (ecells x).toArray 34 (0, 0)) * (pts b1 (.cells (l.map bv).toArray 36 (0, 0)) * H))) := hd.right.right.right
  refine num_spec h hd3 fun w h => ?_
  refine st_cell (cell_of ((h.drop.own b2).pts_get) (by rfl)) ?_
  refine st_cell (cell_of ((h.drop.own b2).pts_get) (by rfl)) ?_
  refine st_cell (cell_of ((h.drop.own b2).pts_get) (by rfl)) ?_
  refine num_spec h hd3 fun w h => ?_
  refine st_cell (cell_of ((h.drop.own b2).pts_get) (by rfl)) ?_
  refine st_cell (cell_of ((h.drop.own b2).pts_get) (by rfl)) ?_
  refine st_cell (cell_of ((h.drop.own b2).pts_get) (by rfl)) ?_
  refine buildSlice_sl (e := 9) (cs := ((colsE x).map tv).toArray) h (fun w => by kernel_rfl) fun b4 w h => ?_
  refine st_cell (cell_of ((h.drop.drop.own b2).pts_get) (by rfl)) ?_
  refine st_cell (cell_of ((h.drop.drop.own b2).pts_get) (by rfl)) ?_
  refine Row_spec (ps := colsE x) h (rds_block (b := b4) (Nat.le_refl _)) (by simp [colsE]) fun v w h => ?_
  refine st_cell (cell_of ((h.drop.drop.drop.own b2).pts_get) (by rfl)) ?_
  refine st_cell (cell_of ((h.drop.drop.drop.own b2).pts_get) (by rfl)) ?_
  refine st_cell (cell_of ((h.drop.drop.drop.own b2).pts_get) (by rfl)) ?_
  refine st_cell (cell_of ((h.drop.drop.drop.own b2).pts_get) (by rfl)) ?_
  rw [o_extract, o_extract]
  refine ld_agg (b := b1) h (by simpa using hl) ?_
  have hr := row_le (colsE x)
  refine Chain_spec h hl Rds.osl.left (by omega) fun w h => ?_
  exact hash_ret (b := b3) h (sha_length _) (by simp) fun w h => k _ h.drop.drop.drop.drop.drop
theorem Bytes_spec (h : sat E w H) {x : Evt} (k : ∀ v w', sat E w' (osl 5 1 v (rowE x).length ((rowE x).map bv) * H) → K v w') : Calls prog 43 #[ev x] w (Ret K) := by
  refine c43 ?_
  unfold B43
  refine box_sl h fun b2 w h => ?_
  have h : sat E w (pts b2 (.cells (ecells x).toArray 34 (0, 0)) * H) := h
  refine dr_sl h fun w h _ => ?_
  simp only [↓o_nil, ↓o_field, ↓o_add, ↓o_sub, ↓o_mul, ↓o_lss, ↓o_leq, ↓o_gtr, ↓o_geq, ↓o_not, ↓o_pick, ↓o_eqInt, ↓o_neInt, ↓o_eqBool, ↓o_neBool, ↓o_eqPtr, ↓o_nePtr, ↓o_eqPtr', ↓o_eqSl, ↓o_neSl, ↓o_eqStr, ↓o_neStr, ↓o_len, ↓o_lenS, ↓o_min, ↓o_max, ↓o_extract, ↓o_convInt, ↓cd_true, ↓cd_false, ↓gate_tt, ↓gate_ff, ↓gate_tf, ↓gate_ft, ↓gate_undef, ↓o_bind, ↓stay_v, ↓pop_cons, ↓fin_nil, Option.isNone_none, Option.isNone_some, Bool.not_true, Bool.not_false, Nat.zero_add, decide_true, decide_false, if_true, if_false, Bool.false_eq_true, ↓reduceIte]
  refine ld_in (b := b2) (v := .int .i64 x.n) h rfl ?_
  refine ld_in (b := b2) (v := .int .i64 x.t) h rfl ?_
  refine ld_in (b := b2) (v := tv x.what) h rfl ?_
  refine ld_in (b := b2) (v := tv x.who) h rfl ?_
  refine Num_spec h fun w h => ?_
  refine st_cell (cell_of ((h.own b2).pts_get) (by rfl)) ?_
  refine st_cell (cell_of ((h.own b2).pts_get) (by rfl)) ?_
  refine st_cell (cell_of ((h.own b2).pts_get) (by rfl)) ?_
  refine Num_spec h fun w h => ?_
  refine st_cell (cell_of ((h.own b2).pts_get) (by rfl)) ?_
  refine st_cell (cell_of ((h.own b2).pts_get) (by rfl)) ?_
  refine st_cell (cell_of ((h.own b2).pts_get) (by rfl)) ?_
  refine buildSlice_sl (e := 9) (cs := ((colsE x).map tv).toArray) h (fun w => by kernel_rfl) fun b4 w h => ?_
  refine st_cell (cell_of ((h.drop.own b2).pts_get) (by rfl)) ?_
  refine st_cell (cell_of ((h.drop.own b2).pts_get) (by rfl)) ?_
  refine RRow_spec (ps := colsE x) h (rds_block (b := b4) (Nat.le_refl _)) (by simp [colsE]) fun v w h => ?_
  refine st_cell (cell_of ((h.drop.drop.own b2).pts_get) (by rfl)) ?_
  refine st_cell (cell_of ((h.drop.drop.own b2).pts_get) (by rfl)) ?_
  refine st_cell (cell_of ((h.drop.drop.own b2).pts_get) (by rfl)) ?_
  refine st_cell (cell_of ((h.drop.drop.own b2).pts_get) (by rfl)) ?_
  rw [o_extract, o_extract]
  refine k _ _ ?_
  have h := (h.perm (show _ = pts b4 _ * (pts b2 _ * (osl 5 1 v (row (colsE x)).1.length ((row (colsE x)).1.map bv) * H)) by ac_rfl))
  exact h.drop.drop
end Go.Proofs.YtjeiojibnmfibaaDoor

/-
  A chain as it is held; its simple functions; adding.
-/
set_option linter.all false
set_option maxRecDepth 10000
namespace Go.Proofs.YtjeiojibnmfibaaDoor
open Go Hold
variable {E : World0} {w : World} {H R : HP} {K : Value → World → Prop}
/-- A chain: the base, the anchor, the head, the last time, the events. -/
structure Ch where
  bn : Int
  bh : List UInt8
  an : Int
  ah : List UInt8
  hd : List UInt8
  last : Int
  l : List Evt
structure Ok (s : Ch) (m : Nat) : Prop where
  b : s.bh.length = 32
  a : s.ah.length = 32
  h : s.hd.length = 32
  b0 : 0 ≤ s.bn
  a0 : 0 ≤ s.an
  le : s.an ≤ s.bn + s.l.length
  top : s.bn + s.l.length ≤ m
  few : s.l.length ≤ 64
def icells (s : Ch) (v : Value) : List Value := .int .i64 s.bn :: (s.bh.map bv ++ (.int .i64 s.an :: (s.ah.map bv ++ (s.hd.map bv ++ [.int .i64 s.last, v]))))
theorem part_at {xs : List Value} (A B C : List Value) {o n : Nat} (e : xs = A ++ (B ++ C)) (hA : A.length = o) (hB : B.length = n) : (xs.drop o).take n = B := by rw [e, List.drop_left' hA, List.take_left' hB]
theorem part_cell {xs : List Value} (A C : List Value) {x : Value} {o : Nat} (e : xs = A ++ ([x] ++ C)) (hA : A.length = o) : xs[o]? = some x := by
  have := take_cell (j := 0) (v := x) (part_at A [x] C e hA rfl) rfl
  simpa using this
theorem part_put {xs : List Value} (A B C B' : List Value) {ys : List Value} {o n : Nat} (e : xs = A ++ (B ++ C)) (hA : A.length = o) (hB : B.length = n) (e' : A ++ (B' ++ C) = ys) : xs.take o ++ B' ++ xs.drop (o + n) = ys := by
  rw [e, List.take_left' hA, ← List.append_assoc A B C, List.drop_left' (by rw [List.length_append, hA, hB]), List.append_assoc]
  exact e'
theorem part_set {xs : List Value} (A C : List Value) {x y : Value} {ys : List Value} {o : Nat} (e : xs = A ++ ([x] ++ C)) (hA : A.length = o) (e' : A ++ ([y] ++ C) = ys) : xs.set o y = ys := by
  rw [← take_set_drop xs o y (by rw [e]; simp [hA])]
  exact part_put A [x] C [y] e hA rfl e'
section
variable {s : Ch} {v : Value} {m : Nat}
theorem ic_length (ok : Ok s m) : (icells s v).length = 100 := by simp [icells, ok.b, ok.a, ok.h]
theorem ic_bn : (icells s v)[0]? = some (.int .i64 s.bn) := rfl
theorem ic_an (ok : Ok s m) : (icells s v)[33]? = some (.int .i64 s.an) := part_cell (.int .i64 s.bn :: s.bh.map bv) (s.ah.map bv ++ (s.hd.map bv ++ [.int .i64 s.last, v])) (by simp [icells]) (by simp [ok.b])
theorem ic_last (ok : Ok s m) : (icells s v)[98]? = some (.int .i64 s.last) := part_cell (.int .i64 s.bn :: (s.bh.map bv ++ (.int .i64 s.an :: (s.ah.map bv ++ s.hd.map bv)))) [v] (by simp [icells]) (by simp [ok.b, ok.a, ok.h])
theorem ic_l (ok : Ok s m) : (icells s v)[99]? = some v := part_cell (.int .i64 s.bn :: (s.bh.map bv ++ (.int .i64 s.an :: (s.ah.map bv ++ (s.hd.map bv ++ [.int .i64 s.last]))))) [] (by simp [icells]) (by simp [ok.b, ok.a, ok.h])
theorem ic_ah (ok : Ok s m) : ((icells s v).drop 34).take 32 = s.ah.map bv := part_at (.int .i64 s.bn :: (s.bh.map bv ++ [.int .i64 s.an])) _ (s.hd.map bv ++ [.int .i64 s.last, v]) (by simp [icells]) (by simp [ok.b]) (by simp [ok.a])
theorem ic_hd (ok : Ok s m) : ((icells s v).drop 66).take 32 = s.hd.map bv := part_at (.int .i64 s.bn :: (s.bh.map bv ++ (.int .i64 s.an :: s.ah.map bv))) _ [.int .i64 s.last, v] (by simp [icells]) (by simp [ok.b, ok.a]) (by simp [ok.h])
theorem ic_base (ok : Ok s m) : ((icells s v).drop 0).take 33 = .int .i64 s.bn :: s.bh.map bv := part_at [] _ (.int .i64 s.an :: (s.ah.map bv ++ (s.hd.map bv ++ [.int .i64 s.last, v]))) (by simp [icells]) rfl (by simp [ok.b])
theorem ic_anchor (ok : Ok s m) : ((icells s v).drop 33).take 33 = .int .i64 s.an :: s.ah.map bv := part_at (.int .i64 s.bn :: s.bh.map bv) _ (s.hd.map bv ++ [.int .i64 s.last, v]) (by simp [icells]) (by simp [ok.b]) (by simp [ok.a])
theorem ip_l (ok : Ok s m) {l : List Evt} {u : Value} : (icells s v).set 99 u = icells { s with l := l } u := part_set (.int .i64 s.bn :: (s.bh.map bv ++ (.int .i64 s.an :: (s.ah.map bv ++ (s.hd.map bv ++ [.int .i64 s.last]))))) [] (x := v) (by simp [icells]) (by simp [ok.b, ok.a, ok.h]) (by simp [icells])
theorem ip_last (ok : Ok s m) {t : Int} : (icells s v).set 98 (.int .i64 t) = icells { s with last := t } v := part_set (.int .i64 s.bn :: (s.bh.map bv ++ (.int .i64 s.an :: (s.ah.map bv ++ s.hd.map bv)))) [v] (x := .int .i64 s.last) (by simp [icells]) (by simp [ok.b, ok.a, ok.h]) (by simp [icells])
theorem ip_hd (ok : Ok s m) {h : List UInt8} : (icells s v).take 66 ++ h.map bv ++ (icells s v).drop (66 + 32) = icells { s with hd := h } v := part_put (.int .i64 s.bn :: (s.bh.map bv ++ (.int .i64 s.an :: s.ah.map bv))) (s.hd.map bv) [.int .i64 s.last, v] _ (by simp [icells]) (by simp [ok.b, ok.a]) (by simp [ok.h]) (by simp [icells])
theorem ip_anchor (ok : Ok s m) {n : Int} {h : List UInt8} : (icells s v).take 33 ++ (.int .i64 n :: h.map bv) ++ (icells s v).drop (33 + 33) = icells { s with an := n, ah := h } v := part_put (.int .i64 s.bn :: s.bh.map bv) (.int .i64 s.an :: s.ah.map bv) (s.hd.map bv ++ [.int .i64 s.last, v]) _ (by simp [icells]) (by simp [ok.b]) (by simp [ok.a]) (by simp [icells])
theorem ip_base (ok : Ok s m) {n : Int} {h : List UInt8} : (icells s v).take 0 ++ (.int .i64 n :: h.map bv) ++ (icells s v).drop (0 + 33) = icells { s with bn := n, bh := h } v := part_put [] (.int .i64 s.bn :: s.bh.map bv) (.int .i64 s.an :: (s.ah.map bv ++ (s.hd.map bv ++ [.int .i64 s.last, v]))) _ (by simp [icells]) rfl (by simp [ok.b]) (by simp [icells])
end
abbrev chI (p : Nat) (s : Ch) (v : Value) (R : HP) : HP := pts p (.cells (icells s v).toArray 59 (0, 0)) * (pers (immS v s.l.length (evs s.l)) * R)
theorem Rds.evs {v : Value} {s : Ch} {p : Nat} {R : HP} : Rds (chI p s v R) v s.l.length (evs s.l) := Rds.pers.left.right
def zeros32 : List UInt8 := List.replicate 32 0
def newS : Ch := ⟨0, zeros32, 0, zeros32, zeros32, 0, []⟩
theorem ok_new : Ok newS 0 := ⟨rfl, rfl, rfl, by decide, by decide, by decide, by decide, by decide⟩
theorem New_spec (h : sat E w R) (k : ∀ p w', sat E w' (chI p newS (.slice none 0 0) R) → K (.pointer (some ⟨p, 0, none⟩)) w') : Calls prog 9 #[] w (Ret K) := by
  refine c9 ?_
  unfold B9
  refine pvv_of (v := .agg (icells newS (.slice none 0 0)).toArray) (fun w => by kernel_rfl) ?_
  refine box_sl h fun p w h => k p w ?_
  have h : sat E w (pts p (.cells (icells newS (.slice none 0 0)).toArray 59 (0, 0)) * R) := h
  unfold chI
  rw [star_left_comm]
  exact h.mono fun I h' hp' => (pers_star_p _ _ _ _).2 ⟨⟨none, 0, rfl, Nat.le_refl _, .inl rfl⟩, hp'⟩
theorem Count_spec {p m : Nat} {s : Ch} {a : Option Addr} {c : Nat} (ok : Ok s m) (hm : m ≤ 1000000000000000) (h : sat E w H) [Has H p (.cells (icells s (.slice a s.l.length c)).toArray 59 (0, 0))]
    (k : ∀ w', sat E w' H → K (.int .i64 (s.bn + s.l.length)) w') : Calls prog 15 #[.pointer (some ⟨p, 0, none⟩)] w (Ret K) := by
  have := ok.b0; have := ok.top; have := ok.few
  refine c15 ?_
  unfold B15
  try simp only [↓o_nil, ↓o_field, ↓o_add, ↓o_sub, ↓o_mul, ↓o_lss, ↓o_leq, ↓o_gtr, ↓o_geq, ↓o_not, ↓o_pick, ↓o_eqInt, ↓o_neInt, ↓o_eqBool, ↓o_neBool, ↓o_eqPtr, ↓o_nePtr, ↓o_eqPtr', ↓o_eqSl, ↓o_neSl, ↓o_eqStr, ↓o_neStr, ↓o_len, ↓o_lenS, ↓o_min, ↓o_max, ↓o_extract, ↓o_convInt, ↓cd_true, ↓cd_false, ↓gate_tt, ↓gate_ff, ↓gate_tf, ↓gate_ft, ↓gate_undef, ↓o_bind, ↓stay_v, ↓pop_cons, ↓fin_nil, Option.isNone_none, Option.isNone_some, Bool.not_true, Bool.not_false, Nat.zero_add, decide_true, decide_false, if_true, if_false, Bool.false_eq_true, ↓reduceIte]
  refine dr_sl h fun w h _ => ?_
  try simp only [↓o_nil, ↓o_field, ↓o_add, ↓o_sub, ↓o_mul, ↓o_lss, ↓o_leq, ↓o_gtr, ↓o_geq, ↓o_not, ↓o_pick, ↓o_eqInt, ↓o_neInt, ↓o_eqBool, ↓o_neBool, ↓o_eqPtr, ↓o_nePtr, ↓o_eqPtr', ↓o_eqSl, ↓o_neSl, ↓o_eqStr, ↓o_neStr, ↓o_len, ↓o_lenS, ↓o_min, ↓o_max, ↓o_extract, ↓o_convInt, ↓cd_true, ↓cd_false, ↓gate_tt, ↓gate_ff, ↓gate_tf, ↓gate_ft, ↓gate_undef, ↓o_bind, ↓stay_v, ↓pop_cons, ↓fin_nil, Option.isNone_none, Option.isNone_some, Bool.not_true, Bool.not_false, Nat.zero_add, decide_true, decide_false, if_true, if_false, Bool.false_eq_true, ↓reduceIte]
  refine ld_in (b := p) (v := .int .i64 s.bn) h ic_bn ?_
  refine ld_in (b := p) (v := .slice a s.l.length c) h (ic_l ok) ?_
  rw [o_len, o_add, i64_of (by omega) (by omega)]
  exact k _ h
theorem Count_nil (k : K (.int .i64 0) w) : Calls prog 15 #[.pointer none] w (Ret K) := by
  refine c15 ?_
  unfold B15
  try simp only [↓o_nil, ↓o_field, ↓o_add, ↓o_sub, ↓o_mul, ↓o_lss, ↓o_leq, ↓o_gtr, ↓o_geq, ↓o_not, ↓o_pick, ↓o_eqInt, ↓o_neInt, ↓o_eqBool, ↓o_neBool, ↓o_eqPtr, ↓o_nePtr, ↓o_eqPtr', ↓o_eqSl, ↓o_neSl, ↓o_eqStr, ↓o_neStr, ↓o_len, ↓o_lenS, ↓o_min, ↓o_max, ↓o_extract, ↓o_convInt, ↓cd_true, ↓cd_false, ↓gate_tt, ↓gate_ff, ↓gate_tf, ↓gate_ft, ↓gate_undef, ↓o_bind, ↓stay_v, ↓pop_cons, ↓fin_nil, Option.isNone_none, Option.isNone_some, Bool.not_true, Bool.not_false, Nat.zero_add, decide_true, decide_false, if_true, if_false, Bool.false_eq_true, ↓reduceIte]
  exact k
theorem zeroH_build {K : Value → World → Prop} (k : K (.agg (zeros32.map bv).toArray) w) : pvv prog (Instr.build 36 #[]) w K := pvv_of (fun w => by kernel_rfl) k
theorem Head_spec {p m : Nat} {s : Ch} {v : Value} (ok : Ok s m) (h : sat E w H) [Has H p (.cells (icells s v).toArray 59 (0, 0))]
    (k : ∀ w', sat E w' H → K (.agg (s.hd.map bv).toArray) w') : Calls prog 19 #[.pointer (some ⟨p, 0, none⟩)] w (Ret K) := by
  refine c19 ?_
  unfold B19
  refine alloc_sl h fun b w h => ?_
  have h : sat E w (pts b (.cells (zeros32.map bv).toArray 36 (0, 0)) * H) := h
  try simp only [↓o_nil, ↓o_field, ↓o_add, ↓o_sub, ↓o_mul, ↓o_lss, ↓o_leq, ↓o_gtr, ↓o_geq, ↓o_not, ↓o_pick, ↓o_eqInt, ↓o_neInt, ↓o_eqBool, ↓o_neBool, ↓o_eqPtr, ↓o_nePtr, ↓o_eqPtr', ↓o_eqSl, ↓o_neSl, ↓o_eqStr, ↓o_neStr, ↓o_len, ↓o_lenS, ↓o_min, ↓o_max, ↓o_extract, ↓o_convInt, ↓cd_true, ↓cd_false, ↓gate_tt, ↓gate_ff, ↓gate_tf, ↓gate_ft, ↓gate_undef, ↓o_bind, ↓stay_v, ↓pop_cons, ↓fin_nil, Option.isNone_none, Option.isNone_some, Bool.not_true, Bool.not_false, Nat.zero_add, decide_true, decide_false, if_true, if_false, Bool.false_eq_true, ↓reduceIte]
  refine ld_part (b := p) h (s.hd.map bv) (by simp [ok.h]) (ic_hd ok) ?_
  exact hash_ret (b := b) h ok.h (ol := zeros32) rfl fun w h => k _ h.drop
theorem Head_nil (h : sat E w H) (k : ∀ w', sat E w' H → K (.agg (zeros32.map bv).toArray) w') : Calls prog 19 #[.pointer none] w (Ret K) := by
  refine c19 ?_
  unfold B19
  refine alloc_sl h fun b w h => ?_
  have h : sat E w (pts b (.cells (zeros32.map bv).toArray 36 (0, 0)) * H) := h
  try simp only [↓o_nil, ↓o_field, ↓o_add, ↓o_sub, ↓o_mul, ↓o_lss, ↓o_leq, ↓o_gtr, ↓o_geq, ↓o_not, ↓o_pick, ↓o_eqInt, ↓o_neInt, ↓o_eqBool, ↓o_neBool, ↓o_eqPtr, ↓o_nePtr, ↓o_eqPtr', ↓o_eqSl, ↓o_neSl, ↓o_eqStr, ↓o_neStr, ↓o_len, ↓o_lenS, ↓o_min, ↓o_max, ↓o_extract, ↓o_convInt, ↓cd_true, ↓cd_false, ↓gate_tt, ↓gate_ff, ↓gate_tf, ↓gate_ft, ↓gate_undef, ↓o_bind, ↓stay_v, ↓pop_cons, ↓fin_nil, Option.isNone_none, Option.isNone_some, Bool.not_true, Bool.not_false, Nat.zero_add, decide_true, decide_false, if_true, if_false, Bool.false_eq_true, ↓reduceIte]
  refine zeroH_build ?_
  exact hash_ret (b := b) h (l := zeros32) rfl (ol := zeros32) rfl fun w h => k _ h.drop
theorem hash_ret3 (h : sat E w H) {b : Nat} {l ol : List UInt8} {n : Int} (hl : l.length = 32) (hol : ol.length = 32) [Own H b (.cells (ol.map bv).toArray 36 (0, 0)) R]
    (k : ∀ w', sat E w' (pts b (.cells (l.map bv).toArray 36 (0, 0)) * R) → K (.tuple #[.int .i64 n, .agg (l.map bv).toArray]) w') :
    efu prog (Instr.storeAt 36 (.pointer (some ⟨b, 0, none⟩)) (.agg (l.map bv).toArray)) w fun _ w =>
      ∃ r, (do loadVar 36 (← asAddr (.pointer (some ⟨b, 0, none⟩)))).run prog w = .ok r w ∧ K (.tuple #[.int .i64 n, r]) w :=
  hash_ret (K := fun r w => K (.tuple #[.int .i64 n, r]) w) h hl hol k
theorem Anchored_spec {p m : Nat} {s : Ch} {v : Value} (ok : Ok s m) (h : sat E w H) [Has H p (.cells (icells s v).toArray 59 (0, 0))]
    (k : ∀ w', sat E w' H → K (.tuple #[.int .i64 s.an, .agg (s.ah.map bv).toArray]) w') : Calls prog 14 #[.pointer (some ⟨p, 0, none⟩)] w (Ret K) := by
  refine c14 ?_
  unfold B14
  refine alloc_sl h fun b w h => ?_
  have h : sat E w (pts b (.cells (zeros32.map bv).toArray 36 (0, 0)) * H) := h
  try simp only [↓o_nil, ↓o_field, ↓o_add, ↓o_sub, ↓o_mul, ↓o_lss, ↓o_leq, ↓o_gtr, ↓o_geq, ↓o_not, ↓o_pick, ↓o_eqInt, ↓o_neInt, ↓o_eqBool, ↓o_neBool, ↓o_eqPtr, ↓o_nePtr, ↓o_eqPtr', ↓o_eqSl, ↓o_neSl, ↓o_eqStr, ↓o_neStr, ↓o_len, ↓o_lenS, ↓o_min, ↓o_max, ↓o_extract, ↓o_convInt, ↓cd_true, ↓cd_false, ↓gate_tt, ↓gate_ff, ↓gate_tf, ↓gate_ft, ↓gate_undef, ↓o_bind, ↓stay_v, ↓pop_cons, ↓fin_nil, Option.isNone_none, Option.isNone_some, Bool.not_true, Bool.not_false, Nat.zero_add, decide_true, decide_false, if_true, if_false, Bool.false_eq_true, ↓reduceIte]
  refine dr_sl h fun w h _ => ?_
  try simp only [↓o_nil, ↓o_field, ↓o_add, ↓o_sub, ↓o_mul, ↓o_lss, ↓o_leq, ↓o_gtr, ↓o_geq, ↓o_not, ↓o_pick, ↓o_eqInt, ↓o_neInt, ↓o_eqBool, ↓o_neBool, ↓o_eqPtr, ↓o_nePtr, ↓o_eqPtr', ↓o_eqSl, ↓o_neSl, ↓o_eqStr, ↓o_neStr, ↓o_len, ↓o_lenS, ↓o_min, ↓o_max, ↓o_extract, ↓o_convInt, ↓cd_true, ↓cd_false, ↓gate_tt, ↓gate_ff, ↓gate_tf, ↓gate_ft, ↓gate_undef, ↓o_bind, ↓stay_v, ↓pop_cons, ↓fin_nil, Option.isNone_none, Option.isNone_some, Bool.not_true, Bool.not_false, Nat.zero_add, decide_true, decide_false, if_true, if_false, Bool.false_eq_true, ↓reduceIte]
  refine ld_in (b := p) (v := .int .i64 s.an) h (ic_an ok) ?_
  refine ld_part (b := p) h (s.ah.map bv) (by simp [ok.a]) (ic_ah ok) ?_
  exact hash_ret3 (b := b) h ok.a (ol := zeros32) rfl fun w h => k _ h.drop
theorem Anchored_nil (h : sat E w H) (k : ∀ w', sat E w' H → K (.tuple #[.int .i64 0, .agg (zeros32.map bv).toArray]) w') : Calls prog 14 #[.pointer none] w (Ret K) := by
  refine c14 ?_
  unfold B14
  refine alloc_sl h fun b w h => ?_
  have h : sat E w (pts b (.cells (zeros32.map bv).toArray 36 (0, 0)) * H) := h
  try simp only [↓o_nil, ↓o_field, ↓o_add, ↓o_sub, ↓o_mul, ↓o_lss, ↓o_leq, ↓o_gtr, ↓o_geq, ↓o_not, ↓o_pick, ↓o_eqInt, ↓o_neInt, ↓o_eqBool, ↓o_neBool, ↓o_eqPtr, ↓o_nePtr, ↓o_eqPtr', ↓o_eqSl, ↓o_neSl, ↓o_eqStr, ↓o_neStr, ↓o_len, ↓o_lenS, ↓o_min, ↓o_max, ↓o_extract, ↓o_convInt, ↓cd_true, ↓cd_false, ↓gate_tt, ↓gate_ff, ↓gate_tf, ↓gate_ft, ↓gate_undef, ↓o_bind, ↓stay_v, ↓pop_cons, ↓fin_nil, Option.isNone_none, Option.isNone_some, Bool.not_true, Bool.not_false, Nat.zero_add, decide_true, decide_false, if_true, if_false, Bool.false_eq_true, ↓reduceIte]
  refine zeroH_build ?_
  exact hash_ret3 (b := b) h (l := zeros32) rfl (ol := zeros32) rfl fun w h => k _ h.drop
theorem build57 {n : Int} {l : List UInt8} (hl : l.length = 32) (k : K (.agg (.int .i64 n :: l.map bv).toArray) w) : pvv prog (Instr.build 57 #[(0, .int .i64 n), (1, .agg (l.map bv).toArray)]) w K := by
  obtain ⟨f, rfl⟩ : ∃ f : Nat → UInt8, l = (List.range 32).map f := ⟨fun i => l.getD i 0, by
    apply List.ext_getElem
    · simp [hl]
    · intro i h1 h2
      simp [List.getD_eq_getElem?_getD, h1]⟩
  exact pvv_of (fun w => by kernel_rfl) k
def anchorS (s : Ch) : Ch := { s with an := s.bn + s.l.length, ah := s.hd }
theorem ok_anchor {s : Ch} {m : Nat} (ok : Ok s m) : Ok (anchorS s) m := ⟨ok.b, ok.h, ok.h, ok.b0, by have := ok.b0; simp only [anchorS]; omega, by simp only [anchorS]; omega, ok.top, ok.few⟩
theorem Anchor_spec {p m : Nat} {s : Ch} {v : Value} (ok : Ok s m) (hm : m ≤ 1000000000000000) (h : sat E w (chI p s v R))
    (k : ∀ w', sat E w' (chI p (anchorS s) v R) → K (.tuple #[.int .i64 (anchorS s).an, .agg ((anchorS s).ah.map bv).toArray]) w') : Calls prog 17 #[.pointer (some ⟨p, 0, none⟩)] w (Ret K) := by
  obtain ⟨a, c, rfl, hc, hv, _⟩ := (Rds.evs (s := s)).shape h
  refine c17 ?_
  unfold B17
  refine alloc_sl h fun b w h => ?_
  have h : sat E w (pts b (.cells (zeros32.map bv).toArray 36 (0, 0)) * chI p s (.slice a s.l.length c) R) := h
  try simp only [↓o_nil, ↓o_field, ↓o_add, ↓o_sub, ↓o_mul, ↓o_lss, ↓o_leq, ↓o_gtr, ↓o_geq, ↓o_not, ↓o_pick, ↓o_eqInt, ↓o_neInt, ↓o_eqBool, ↓o_neBool, ↓o_eqPtr, ↓o_nePtr, ↓o_eqPtr', ↓o_eqSl, ↓o_neSl, ↓o_eqStr, ↓o_neStr, ↓o_len, ↓o_lenS, ↓o_min, ↓o_max, ↓o_extract, ↓o_convInt, ↓cd_true, ↓cd_false, ↓gate_tt, ↓gate_ff, ↓gate_tf, ↓gate_ft, ↓gate_undef, ↓o_bind, ↓stay_v, ↓pop_cons, ↓fin_nil, Option.isNone_none, Option.isNone_some, Bool.not_true, Bool.not_false, Nat.zero_add, decide_true, decide_false, if_true, if_false, Bool.false_eq_true, ↓reduceIte]
  refine dr_sl h fun w h _ => ?_
  try simp only [↓o_nil, ↓o_field, ↓o_add, ↓o_sub, ↓o_mul, ↓o_lss, ↓o_leq, ↓o_gtr, ↓o_geq, ↓o_not, ↓o_pick, ↓o_eqInt, ↓o_neInt, ↓o_eqBool, ↓o_neBool, ↓o_eqPtr, ↓o_nePtr, ↓o_eqPtr', ↓o_eqSl, ↓o_neSl, ↓o_eqStr, ↓o_neStr, ↓o_len, ↓o_lenS, ↓o_min, ↓o_max, ↓o_extract, ↓o_convInt, ↓cd_true, ↓cd_false, ↓gate_tt, ↓gate_ff, ↓gate_tf, ↓gate_ft, ↓gate_undef, ↓o_bind, ↓stay_v, ↓pop_cons, ↓fin_nil, Option.isNone_none, Option.isNone_some, Bool.not_true, Bool.not_false, Nat.zero_add, decide_true, decide_false, if_true, if_false, Bool.false_eq_true, ↓reduceIte]
  refine ld_part (b := p) h (s.hd.map bv) (by simp [ok.h]) (ic_hd ok) ?_
  refine Count_spec ok hm h fun w h => ?_
  refine st_part (b := p) h (s.hd.map bv) (by simp [ok.h]) (ic_hd ok) ?_
  refine build57 ok.h ?_
  try simp only [↓o_nil, ↓o_field, ↓o_add, ↓o_sub, ↓o_mul, ↓o_lss, ↓o_leq, ↓o_gtr, ↓o_geq, ↓o_not, ↓o_pick, ↓o_eqInt, ↓o_neInt, ↓o_eqBool, ↓o_neBool, ↓o_eqPtr, ↓o_nePtr, ↓o_eqPtr', ↓o_eqSl, ↓o_neSl, ↓o_eqStr, ↓o_neStr, ↓o_len, ↓o_lenS, ↓o_min, ↓o_max, ↓o_extract, ↓o_convInt, ↓cd_true, ↓cd_false, ↓gate_tt, ↓gate_ff, ↓gate_tf, ↓gate_ft, ↓gate_undef, ↓o_bind, ↓stay_v, ↓pop_cons, ↓fin_nil, Option.isNone_none, Option.isNone_some, Bool.not_true, Bool.not_false, Nat.zero_add, decide_true, decide_false, if_true, if_false, Bool.false_eq_true, ↓reduceIte]
  refine store_part (b := p) h (icells (anchorS s) (.slice a s.l.length c)) (by simp [ok.h]) (by
    intro x hx
    rcases List.mem_cons.1 hx with rfl | hx
    · rfl
    · exact bv_one _ x hx) (by rw [ic_length ok]; omega) (ip_anchor ok) fun w h => ?_
  refine Anchored_spec (p := p) (ok_anchor ok) h fun w h => ?_
  rw [o_extract, o_extract]
  refine hash_ret3 (b := b) h (l := (anchorS s).ah) (ok_anchor ok).a (ol := zeros32) rfl fun w h => k _ ?_
  have h := h.drop
  exact h
end Go.Proofs.YtjeiojibnmfibaaDoor

/-
  A chain's events, copied; adding an event.
-/
set_option linter.all false
set_option maxRecDepth 10000
namespace Go.Proofs.YtjeiojibnmfibaaDoor
open Go Hold
variable {E : World0} {w : World} {H R : HP} {K : Value → World → Prop}
theorem osl_empty {b : Nat} (h : sat E w (pts b (.cells #[] 34 (0, 0)) * R)) : sat E w (osl 34 4 (.slice (some ⟨b, 0, none⟩) 0 0) 0 [] * R) :=
  sat_osl.2 (.inr ⟨b, 0, [], rfl, rfl, rfl, Nat.le_refl _, by omega, h⟩)
theorem CloneE_spec (h : sat E w H) {a : Option Addr} {n c : Nat} {xs : List Value} (hx : xs.length = n * 4) (h1 : ∀ x ∈ xs, x.oneCell' = true) (hv : Rds H (.slice a n c) n xs) (hn : n ≤ 1000)
    (k : ∀ v w', sat E w' (osl 34 4 v n xs * H) → K v w') : Calls prog 30 #[.slice a n c] w (Ret K) := by
  refine c30 ?_
  unfold B30
  rw [o_eqSl]
  cases a with
  | none =>
    obtain ⟨_, _, _, _, _, ha⟩ := hv.shape h
    have hw := hv.win h
    have hxs : xs = [] := by
      rcases hw with h | ⟨_, _, _, _, _, h, _⟩
      · exact h
      · cases h
    subst hxs
    have hn0 : n = 0 := by simp at hx; omega
    subst hn0
    try simp only [↓o_nil, ↓o_field, ↓o_add, ↓o_sub, ↓o_mul, ↓o_lss, ↓o_leq, ↓o_gtr, ↓o_geq, ↓o_not, ↓o_pick, ↓o_eqInt, ↓o_neInt, ↓o_eqBool, ↓o_neBool, ↓o_eqPtr, ↓o_nePtr, ↓o_eqPtr', ↓o_eqSl, ↓o_neSl, ↓o_eqStr, ↓o_neStr, ↓o_len, ↓o_lenS, ↓o_min, ↓o_max, ↓o_extract, ↓o_convInt, ↓cd_true, ↓cd_false, ↓gate_tt, ↓gate_ff, ↓gate_tf, ↓gate_ft, ↓gate_undef, ↓o_bind, ↓stay_v, ↓pop_cons, ↓fin_nil, Option.isNone_none, Option.isNone_some, Bool.not_true, Bool.not_false, Nat.zero_add, decide_true, decide_false, if_true, if_false, Bool.false_eq_true, ↓reduceIte]
    exact k _ _ (osl_nil h 34 4)
  | some a =>
    try simp only [↓o_nil, ↓o_field, ↓o_add, ↓o_sub, ↓o_mul, ↓o_lss, ↓o_leq, ↓o_gtr, ↓o_geq, ↓o_not, ↓o_pick, ↓o_eqInt, ↓o_neInt, ↓o_eqBool, ↓o_neBool, ↓o_eqPtr, ↓o_nePtr, ↓o_eqPtr', ↓o_eqSl, ↓o_neSl, ↓o_eqStr, ↓o_neStr, ↓o_len, ↓o_lenS, ↓o_min, ↓o_max, ↓o_extract, ↓o_convInt, ↓cd_true, ↓cd_false, ↓gate_tt, ↓gate_ff, ↓gate_tf, ↓gate_ft, ↓gate_undef, ↓o_bind, ↓stay_v, ↓pop_cons, ↓fin_nil, Option.isNone_none, Option.isNone_some, Bool.not_true, Bool.not_false, Nat.zero_add, decide_true, decide_false, if_true, if_false, Bool.false_eq_true, ↓reduceIte]
    refine buildSlice_sl (e := 34) (cs := #[]) h (fun w => by kernel_rfl) fun b w h => ?_
    have h := osl_empty h
    refine append_sl (v := .slice (some ⟨b, 0, none⟩) 0 0) h xs hx (hv.win h.drop) h1 (by omega) (by omega) fun v w h => ?_
    refine k v w ?_
    simpa using h
theorem Events_spec {p m : Nat} {s : Ch} {v : Value} (ok : Ok s m) (h : sat E w (chI p s v R)) (k : ∀ u w', sat E w' (osl 34 4 u s.l.length (evs s.l) * chI p s v R) → K u w') : Calls prog 13 #[.pointer (some ⟨p, 0, none⟩)] w (Ret K) := by
  have := ok.few
  obtain ⟨a, c, rfl, hc, hv, _⟩ := (Rds.evs (s := s)).shape h
  refine c13 ?_
  unfold B13
  try simp only [↓o_nil, ↓o_field, ↓o_add, ↓o_sub, ↓o_mul, ↓o_lss, ↓o_leq, ↓o_gtr, ↓o_geq, ↓o_not, ↓o_pick, ↓o_eqInt, ↓o_neInt, ↓o_eqBool, ↓o_neBool, ↓o_eqPtr, ↓o_nePtr, ↓o_eqPtr', ↓o_eqSl, ↓o_neSl, ↓o_eqStr, ↓o_neStr, ↓o_len, ↓o_lenS, ↓o_min, ↓o_max, ↓o_extract, ↓o_convInt, ↓cd_true, ↓cd_false, ↓gate_tt, ↓gate_ff, ↓gate_tf, ↓gate_ft, ↓gate_undef, ↓o_bind, ↓stay_v, ↓pop_cons, ↓fin_nil, Option.isNone_none, Option.isNone_some, Bool.not_true, Bool.not_false, Nat.zero_add, decide_true, decide_false, if_true, if_false, Bool.false_eq_true, ↓reduceIte]
  refine ld_in (b := p) (v := .slice a s.l.length c) h (ic_l ok) ?_
  exact CloneE_spec h (evs_length _) (evs_one _) hv (by omega) fun u w h => k u w h
theorem Events_nil (k : K (.slice none 0 0) w) : Calls prog 13 #[.pointer none] w (Ret K) := by
  refine c13 ?_
  unfold B13
  try simp only [↓o_nil, ↓o_field, ↓o_add, ↓o_sub, ↓o_mul, ↓o_lss, ↓o_leq, ↓o_gtr, ↓o_geq, ↓o_not, ↓o_pick, ↓o_eqInt, ↓o_neInt, ↓o_eqBool, ↓o_neBool, ↓o_eqPtr, ↓o_nePtr, ↓o_eqPtr', ↓o_eqSl, ↓o_neSl, ↓o_eqStr, ↓o_neStr, ↓o_len, ↓o_lenS, ↓o_min, ↓o_max, ↓o_extract, ↓o_convInt, ↓cd_true, ↓cd_false, ↓gate_tt, ↓gate_ff, ↓gate_tf, ↓gate_ft, ↓gate_undef, ↓o_bind, ↓stay_v, ↓pop_cons, ↓fin_nil, Option.isNone_none, Option.isNone_some, Bool.not_true, Bool.not_false, Nat.zero_add, decide_true, decide_false, if_true, if_false, Bool.false_eq_true, ↓reduceIte]
  exact k
def newE (s : Ch) (t : Int) (a b : List UInt8) : Evt := ⟨s.bn + s.l.length + 1, t, a, b⟩
def addS (s : Ch) (t : Int) (a b : List UInt8) : Ch × Evt × Int :=
  if t < 0 ∨ 1099511627776 < t then (s, zeroE, 2)
  else if 12 < a.length ∨ 30 < b.length then (s, zeroE, 6)
  else if t < s.last then (s, zeroE, 9)
  else if 64 ≤ s.l.length then (s, zeroE, 26)
  else ({ s with l := s.l ++ [newE s t a b], hd := nx s.hd (newE s t a b), last := t }, newE s t a b, 0)
theorem ok_add {s : Ch} {m : Nat} {t : Int} {a b : List UInt8} (ok : Ok s m) : Ok (addS s t a b).1 (m + 1) := by
  have ok1 : Ok s (m + 1) := ⟨ok.b, ok.a, ok.h, ok.b0, ok.a0, ok.le, by have := ok.top; omega, ok.few⟩
  unfold addS
  split
  · exact ok1
  · split
    · exact ok1
    · split
      · exact ok1
      · split
        · exact ok1
        · have := ok.le; have := ok.top
          exact ⟨ok.b, ok.a, nx_length _ _, ok.b0, ok.a0, by simp; omega, by simp; omega, by simp; omega⟩
theorem evt_ret (h : sat E w H) {b : Nat} {x y : Evt} {e : Int} [Own H b (.cells (ecells x).toArray 34 (0, 0)) R] (k : ∀ w', sat E w' (pts b (.cells (ecells y).toArray 34 (0, 0)) * R) → K (.tuple #[ev y, .int .i64 e]) w') :
    efu prog (Instr.storeAt 34 (.pointer (some ⟨b, 0, none⟩)) (ev y)) w fun _ w => ∃ r, (do loadVar 34 (← asAddr (.pointer (some ⟨b, 0, none⟩)))).run prog w = .ok r w ∧ K (.tuple #[r, .int .i64 e]) w :=
  res_all (K := fun r w => K (.tuple #[r, .int .i64 e]) w) (b := b) h (xs := ecells x) (vs := ecells y) rfl rfl (ecells_one y) k
theorem zeroE_build (k : K (ev zeroE) w) : pvv prog (Instr.build 34 #[]) w K := pvv_of (fun w => by kernel_rfl) k
theorem Add_nil (h : sat E w H) {t : Int} {x y : Value} (k : ∀ w', sat E w' H → K (.tuple #[ev zeroE, .int .i64 1]) w') : Calls prog 16 #[.pointer none, .int .i64 t, x, y] w (Ret K) := by
  refine c16 ?_
  unfold B16
  refine alloc_sl h fun b0 w h => ?_
  have h : sat E w (pts b0 (.cells (ecells zeroE).toArray 34 (0, 0)) * H) := h
  try simp only [↓o_nil, ↓o_field, ↓o_add, ↓o_sub, ↓o_mul, ↓o_lss, ↓o_leq, ↓o_gtr, ↓o_geq, ↓o_not, ↓o_pick, ↓o_eqInt, ↓o_neInt, ↓o_eqBool, ↓o_neBool, ↓o_eqPtr, ↓o_nePtr, ↓o_eqPtr', ↓o_eqSl, ↓o_neSl, ↓o_eqStr, ↓o_neStr, ↓o_len, ↓o_lenS, ↓o_min, ↓o_max, ↓o_extract, ↓o_convInt, ↓cd_true, ↓cd_false, ↓gate_tt, ↓gate_ff, ↓gate_tf, ↓gate_ft, ↓gate_undef, ↓o_bind, ↓stay_v, ↓pop_cons, ↓fin_nil, Option.isNone_none, Option.isNone_some, Bool.not_true, Bool.not_false, Nat.zero_add, decide_true, decide_false, if_true, if_false, Bool.false_eq_true, ↓reduceIte]
  refine zeroE_build ?_
  exact evt_ret (b := b0) (x := zeroE) h fun w h => k _ h.drop
theorem Add_spec {p m : Nat} {s : Ch} {v : Value} {t : Int} {a b : List UInt8} (ok : Ok s m) (hm : m ≤ 1000000000000) (hd : Dbt R) (h : sat E w (chI p s v R))
    (k : ∀ v' w', sat E w' (chI p (addS s t a b).1 v' R) → K (.tuple #[ev (addS s t a b).2.1, .int .i64 (addS s t a b).2.2]) w') : Calls prog 16 #[.pointer (some ⟨p, 0, none⟩), .int .i64 t, tv a, tv b] w (Ret K) := by
  have := ok.few; have := ok.top; have := ok.b0
  obtain ⟨va, vc, rfl, hc, hv, _⟩ := (Rds.evs (s := s)).shape h
  refine c16 ?_
  unfold B16
  refine alloc_sl h fun b0 w h => ?_
  have h : sat E w (pts b0 (.cells (ecells zeroE).toArray 34 (0, 0)) * chI p s (.slice va s.l.length vc) R) := h
  simp only [↓o_eqPtr, Option.isNone_some, ↓cd_false]
  rw [o_lss]
  by_cases h1 : t < 0
  · have e : addS s t a b = (s, zeroE, 2) := by unfold addS; rw [if_pos (.inl h1)]
    simp only [h1, ↓o_nil, ↓o_field, ↓o_add, ↓o_sub, ↓o_mul, ↓o_lss, ↓o_leq, ↓o_gtr, ↓o_geq, ↓o_not, ↓o_pick, ↓o_eqInt, ↓o_neInt, ↓o_eqBool, ↓o_neBool, ↓o_eqPtr, ↓o_nePtr, ↓o_eqPtr', ↓o_eqSl, ↓o_neSl, ↓o_eqStr, ↓o_neStr, ↓o_len, ↓o_lenS, ↓o_min, ↓o_max, ↓o_extract, ↓o_convInt, ↓cd_true, ↓cd_false, ↓gate_tt, ↓gate_ff, ↓gate_tf, ↓gate_ft, ↓gate_undef, ↓o_bind, ↓stay_v, ↓pop_cons, ↓fin_nil, Option.isNone_none, Option.isNone_some, Bool.not_true, Bool.not_false, Nat.zero_add, decide_true, decide_false, if_true, if_false, Bool.false_eq_true, ↓reduceIte]
    refine zeroE_build ?_
    exact evt_ret (b := b0) (x := zeroE) h fun w h => by rw [e] at k; exact k _ _ h.drop
  simp only [h1, ↓o_nil, ↓o_field, ↓o_add, ↓o_sub, ↓o_mul, ↓o_lss, ↓o_leq, ↓o_gtr, ↓o_geq, ↓o_not, ↓o_pick, ↓o_eqInt, ↓o_neInt, ↓o_eqBool, ↓o_neBool, ↓o_eqPtr, ↓o_nePtr, ↓o_eqPtr', ↓o_eqSl, ↓o_neSl, ↓o_eqStr, ↓o_neStr, ↓o_len, ↓o_lenS, ↓o_min, ↓o_max, ↓o_extract, ↓o_convInt, ↓cd_true, ↓cd_false, ↓gate_tt, ↓gate_ff, ↓gate_tf, ↓gate_ft, ↓gate_undef, ↓o_bind, ↓stay_v, ↓pop_cons, ↓fin_nil, Option.isNone_none, Option.isNone_some, Bool.not_true, Bool.not_false, Nat.zero_add, decide_true, decide_false, if_true, if_false, Bool.false_eq_true, ↓reduceIte]
  by_cases h2 : 1099511627776 < t
  · have e : addS s t a b = (s, zeroE, 2) := by unfold addS; rw [if_pos (.inr h2)]
    simp only [h2, ↓o_nil, ↓o_field, ↓o_add, ↓o_sub, ↓o_mul, ↓o_lss, ↓o_leq, ↓o_gtr, ↓o_geq, ↓o_not, ↓o_pick, ↓o_eqInt, ↓o_neInt, ↓o_eqBool, ↓o_neBool, ↓o_eqPtr, ↓o_nePtr, ↓o_eqPtr', ↓o_eqSl, ↓o_neSl, ↓o_eqStr, ↓o_neStr, ↓o_len, ↓o_lenS, ↓o_min, ↓o_max, ↓o_extract, ↓o_convInt, ↓cd_true, ↓cd_false, ↓gate_tt, ↓gate_ff, ↓gate_tf, ↓gate_ft, ↓gate_undef, ↓o_bind, ↓stay_v, ↓pop_cons, ↓fin_nil, Option.isNone_none, Option.isNone_some, Bool.not_true, Bool.not_false, Nat.zero_add, decide_true, decide_false, if_true, if_false, Bool.false_eq_true, ↓reduceIte]
    refine zeroE_build ?_
    exact evt_ret (b := b0) (x := zeroE) h fun w h => by rw [e] at k; exact k _ _ h.drop
  have n1 : ¬ (t < 0 ∨ 1099511627776 < t) := by omega
  simp only [h2, ↓o_nil, ↓o_field, ↓o_add, ↓o_sub, ↓o_mul, ↓o_lss, ↓o_leq, ↓o_gtr, ↓o_geq, ↓o_not, ↓o_pick, ↓o_eqInt, ↓o_neInt, ↓o_eqBool, ↓o_neBool, ↓o_eqPtr, ↓o_nePtr, ↓o_eqPtr', ↓o_eqSl, ↓o_neSl, ↓o_eqStr, ↓o_neStr, ↓o_len, ↓o_lenS, ↓o_min, ↓o_max, ↓o_extract, ↓o_convInt, ↓cd_true, ↓cd_false, ↓gate_tt, ↓gate_ff, ↓gate_tf, ↓gate_ft, ↓gate_undef, ↓o_bind, ↓stay_v, ↓pop_cons, ↓fin_nil, Option.isNone_none, Option.isNone_some, Bool.not_true, Bool.not_false, Nat.zero_add, decide_true, decide_false, if_true, if_false, Bool.false_eq_true, ↓reduceIte]
  rw [o_lenT, o_gtr]
  by_cases h3 : (12 : Int) < a.length
  · have e : addS s t a b = (s, zeroE, 6) := by unfold addS; rw [if_neg n1, if_pos (.inl (by omega))]
    simp only [h3, ↓o_nil, ↓o_field, ↓o_add, ↓o_sub, ↓o_mul, ↓o_lss, ↓o_leq, ↓o_gtr, ↓o_geq, ↓o_not, ↓o_pick, ↓o_eqInt, ↓o_neInt, ↓o_eqBool, ↓o_neBool, ↓o_eqPtr, ↓o_nePtr, ↓o_eqPtr', ↓o_eqSl, ↓o_neSl, ↓o_eqStr, ↓o_neStr, ↓o_len, ↓o_lenS, ↓o_min, ↓o_max, ↓o_extract, ↓o_convInt, ↓cd_true, ↓cd_false, ↓gate_tt, ↓gate_ff, ↓gate_tf, ↓gate_ft, ↓gate_undef, ↓o_bind, ↓stay_v, ↓pop_cons, ↓fin_nil, Option.isNone_none, Option.isNone_some, Bool.not_true, Bool.not_false, Nat.zero_add, decide_true, decide_false, if_true, if_false, Bool.false_eq_true, ↓reduceIte]
    refine zeroE_build ?_
    exact evt_ret (b := b0) (x := zeroE) h fun w h => by rw [e] at k; exact k _ _ h.drop
  simp only [h3, ↓o_nil, ↓o_field, ↓o_add, ↓o_sub, ↓o_mul, ↓o_lss, ↓o_leq, ↓o_gtr, ↓o_geq, ↓o_not, ↓o_pick, ↓o_eqInt, ↓o_neInt, ↓o_eqBool, ↓o_neBool, ↓o_eqPtr, ↓o_nePtr, ↓o_eqPtr', ↓o_eqSl, ↓o_neSl, ↓o_eqStr, ↓o_neStr, ↓o_len, ↓o_lenS, ↓o_min, ↓o_max, ↓o_extract, ↓o_convInt, ↓cd_true, ↓cd_false, ↓gate_tt, ↓gate_ff, ↓gate_tf, ↓gate_ft, ↓gate_undef, ↓o_bind, ↓stay_v, ↓pop_cons, ↓fin_nil, Option.isNone_none, Option.isNone_some, Bool.not_true, Bool.not_false, Nat.zero_add, decide_true, decide_false, if_true, if_false, Bool.false_eq_true, ↓reduceIte]
  rw [o_lenT, o_gtr]
  by_cases h4 : (30 : Int) < b.length
  · have e : addS s t a b = (s, zeroE, 6) := by unfold addS; rw [if_neg n1, if_pos (.inr (by omega))]
    simp only [h4, ↓o_nil, ↓o_field, ↓o_add, ↓o_sub, ↓o_mul, ↓o_lss, ↓o_leq, ↓o_gtr, ↓o_geq, ↓o_not, ↓o_pick, ↓o_eqInt, ↓o_neInt, ↓o_eqBool, ↓o_neBool, ↓o_eqPtr, ↓o_nePtr, ↓o_eqPtr', ↓o_eqSl, ↓o_neSl, ↓o_eqStr, ↓o_neStr, ↓o_len, ↓o_lenS, ↓o_min, ↓o_max, ↓o_extract, ↓o_convInt, ↓cd_true, ↓cd_false, ↓gate_tt, ↓gate_ff, ↓gate_tf, ↓gate_ft, ↓gate_undef, ↓o_bind, ↓stay_v, ↓pop_cons, ↓fin_nil, Option.isNone_none, Option.isNone_some, Bool.not_true, Bool.not_false, Nat.zero_add, decide_true, decide_false, if_true, if_false, Bool.false_eq_true, ↓reduceIte]
    refine zeroE_build ?_
    exact evt_ret (b := b0) (x := zeroE) h fun w h => by rw [e] at k; exact k _ _ h.drop
  have n2 : ¬ (12 < a.length ∨ 30 < b.length) := by omega
  simp only [h4, ↓o_nil, ↓o_field, ↓o_add, ↓o_sub, ↓o_mul, ↓o_lss, ↓o_leq, ↓o_gtr, ↓o_geq, ↓o_not, ↓o_pick, ↓o_eqInt, ↓o_neInt, ↓o_eqBool, ↓o_neBool, ↓o_eqPtr, ↓o_nePtr, ↓o_eqPtr', ↓o_eqSl, ↓o_neSl, ↓o_eqStr, ↓o_neStr, ↓o_len, ↓o_lenS, ↓o_min, ↓o_max, ↓o_extract, ↓o_convInt, ↓cd_true, ↓cd_false, ↓gate_tt, ↓gate_ff, ↓gate_tf, ↓gate_ft, ↓gate_undef, ↓o_bind, ↓stay_v, ↓pop_cons, ↓fin_nil, Option.isNone_none, Option.isNone_some, Bool.not_true, Bool.not_false, Nat.zero_add, decide_true, decide_false, if_true, if_false, Bool.false_eq_true, ↓reduceIte]
  refine ld_in (b := p) (v := .int .i64 s.last) h (ic_last ok) ?_
  rw [o_lss]
  by_cases h5 : t < s.last
  · have e : addS s t a b = (s, zeroE, 9) := by unfold addS; rw [if_neg n1, if_neg n2, if_pos h5]
    simp only [h5, ↓o_nil, ↓o_field, ↓o_add, ↓o_sub, ↓o_mul, ↓o_lss, ↓o_leq, ↓o_gtr, ↓o_geq, ↓o_not, ↓o_pick, ↓o_eqInt, ↓o_neInt, ↓o_eqBool, ↓o_neBool, ↓o_eqPtr, ↓o_nePtr, ↓o_eqPtr', ↓o_eqSl, ↓o_neSl, ↓o_eqStr, ↓o_neStr, ↓o_len, ↓o_lenS, ↓o_min, ↓o_max, ↓o_extract, ↓o_convInt, ↓cd_true, ↓cd_false, ↓gate_tt, ↓gate_ff, ↓gate_tf, ↓gate_ft, ↓gate_undef, ↓o_bind, ↓stay_v, ↓pop_cons, ↓fin_nil, Option.isNone_none, Option.isNone_some, Bool.not_true, Bool.not_false, Nat.zero_add, decide_true, decide_false, if_true, if_false, Bool.false_eq_true, ↓reduceIte]
    refine zeroE_build ?_
    exact evt_ret (b := b0) (x := zeroE) h fun w h => by rw [e] at k; exact k _ _ h.drop
  simp only [h5, ↓o_nil, ↓o_field, ↓o_add, ↓o_sub, ↓o_mul, ↓o_lss, ↓o_leq, ↓o_gtr, ↓o_geq, ↓o_not, ↓o_pick, ↓o_eqInt, ↓o_neInt, ↓o_eqBool, ↓o_neBool, ↓o_eqPtr, ↓o_nePtr, ↓o_eqPtr', ↓o_eqSl, ↓o_neSl, ↓o_eqStr, ↓o_neStr, ↓o_len, ↓o_lenS, ↓o_min, ↓o_max, ↓o_extract, ↓o_convInt, ↓cd_true, ↓cd_false, ↓gate_tt, ↓gate_ff, ↓gate_tf, ↓gate_ft, ↓gate_undef, ↓o_bind, ↓stay_v, ↓pop_cons, ↓fin_nil, Option.isNone_none, Option.isNone_some, Bool.not_true, Bool.not_false, Nat.zero_add, decide_true, decide_false, if_true, if_false, Bool.false_eq_true, ↓reduceIte]
  refine ld_in (b := p) (v := .slice va s.l.length vc) h (ic_l ok) ?_
  rw [o_len, o_geq]
  by_cases h6 : (64 : Int) ≤ s.l.length
  · have e : addS s t a b = (s, zeroE, 26) := by unfold addS; rw [if_neg n1, if_neg n2, if_neg h5, if_pos (by omega)]
    simp only [h6, ↓o_nil, ↓o_field, ↓o_add, ↓o_sub, ↓o_mul, ↓o_lss, ↓o_leq, ↓o_gtr, ↓o_geq, ↓o_not, ↓o_pick, ↓o_eqInt, ↓o_neInt, ↓o_eqBool, ↓o_neBool, ↓o_eqPtr, ↓o_nePtr, ↓o_eqPtr', ↓o_eqSl, ↓o_neSl, ↓o_eqStr, ↓o_neStr, ↓o_len, ↓o_lenS, ↓o_min, ↓o_max, ↓o_extract, ↓o_convInt, ↓cd_true, ↓cd_false, ↓gate_tt, ↓gate_ff, ↓gate_tf, ↓gate_ft, ↓gate_undef, ↓o_bind, ↓stay_v, ↓pop_cons, ↓fin_nil, Option.isNone_none, Option.isNone_some, Bool.not_true, Bool.not_false, Nat.zero_add, decide_true, decide_false, if_true, if_false, Bool.false_eq_true, ↓reduceIte]
    refine zeroE_build ?_
    exact evt_ret (b := b0) (x := zeroE) h fun w h => by rw [e] at k; exact k _ _ h.drop
  have e : addS s t a b = ({ s with l := s.l ++ [newE s t a b], hd := nx s.hd (newE s t a b), last := t }, newE s t a b, 0) := by unfold addS; rw [if_neg n1, if_neg n2, if_neg h5, if_neg (by omega)]
  rw [e] at k
  simp only [h6, ↓o_nil, ↓o_field, ↓o_add, ↓o_sub, ↓o_mul, ↓o_lss, ↓o_leq, ↓o_gtr, ↓o_geq, ↓o_not, ↓o_pick, ↓o_eqInt, ↓o_neInt, ↓o_eqBool, ↓o_neBool, ↓o_eqPtr, ↓o_nePtr, ↓o_eqPtr', ↓o_eqSl, ↓o_neSl, ↓o_eqStr, ↓o_neStr, ↓o_len, ↓o_lenS, ↓o_min, ↓o_max, ↓o_extract, ↓o_convInt, ↓cd_true, ↓cd_false, ↓gate_tt, ↓gate_ff, ↓gate_tf, ↓gate_ft, ↓gate_undef, ↓o_bind, ↓stay_v, ↓pop_cons, ↓fin_nil, Option.isNone_none, Option.isNone_some, Bool.not_true, Bool.not_false, Nat.zero_add, decide_true, decide_false, if_true, if_false, Bool.false_eq_true, ↓reduceIte]
  refine Count_spec ok (by omega) h fun w h => ?_
  rw [o_add, i64_of (by omega) (by omega)]
  refine pvv_of (v := ev (newE s t a b)) (fun w => by kernel_rfl) ?_
  generalize hx : newE s t a b = x at k ⊢
  refine alloc_sl h fun b1 w h => ?_
  have h : sat E w (pts b1 (.cells (ecells zeroE).toArray 34 (0, 0)) * (pts b0 (.cells (ecells zeroE).toArray 34 (0, 0)) * chI p s (.slice va s.l.length vc) R)) := h
  refine store_all (b := b1) h (xs := ecells zeroE) (vs := ecells x) rfl rfl (ecells_one x) fun w h => ?_
  refine dr_sl h fun w h _ => ?_
  try simp only [↓o_nil, ↓o_field, ↓o_add, ↓o_sub, ↓o_mul, ↓o_lss, ↓o_leq, ↓o_gtr, ↓o_geq, ↓o_not, ↓o_pick, ↓o_eqInt, ↓o_neInt, ↓o_eqBool, ↓o_neBool, ↓o_eqPtr, ↓o_nePtr, ↓o_eqPtr', ↓o_eqSl, ↓o_neSl, ↓o_eqStr, ↓o_neStr, ↓o_len, ↓o_lenS, ↓o_min, ↓o_max, ↓o_extract, ↓o_convInt, ↓cd_true, ↓cd_false, ↓gate_tt, ↓gate_ff, ↓gate_tf, ↓gate_ft, ↓gate_undef, ↓o_bind, ↓stay_v, ↓pop_cons, ↓fin_nil, Option.isNone_none, Option.isNone_some, Bool.not_true, Bool.not_false, Nat.zero_add, decide_true, decide_false, if_true, if_false, Bool.false_eq_true, ↓reduceIte]
  refine ld_in (b := p) (v := .slice va s.l.length vc) h (ic_l ok) ?_
  refine ld_in (b := p) (v := .slice va s.l.length vc) h (ic_l ok) ?_
  rw [o_len]
  refine ld_in (b := p) (v := .slice va s.l.length vc) h (ic_l ok) ?_
  rw [o_len, o_slice_hm (by omega) (by omega) (by omega)]
  simp only [Int.toNat_natCast]
  refine ld_agg (b := b1) (xs := ecells x) h rfl ?_
  refine buildSlice_sl (e := 34) (cs := (ecells x).toArray) h (fun w => by kernel_rfl) fun b2 w h => ?_
  refine st_in (b := p) (v := .slice va s.l.length vc) h (ic_l ok) ?_
  refine st_in (b := p) (v := .slice va s.l.length vc) h (ic_l ok) ?_
  refine st_in (b := p) (v := .slice va s.l.length vc) h (ic_l ok) ?_
  have hcut : Rds (pts b2 (.cells (ecells x).toArray 34 (0, 0)) * (pts b1 (.cells (ecells x).toArray 34 (0, 0)) * (pts b0 (.cells (ecells zeroE).toArray 34 (0, 0)) * chI p s (.slice va s.l.length vc) R))) (.slice va s.l.length s.l.length) s.l.length (evs s.l) := by
    intro E w hs
    obtain ⟨a', c', e', hc', hw'⟩ := hv E w hs.drop.drop.drop
    cases e'
    exact ⟨_, _, rfl, Nat.le_refl _, hw'⟩
  refine append_fullN h (evs_length s.l) hcut (ecells x) (k' := 1) (by omega) rfl (.inr ⟨b2, 0, _, _, _, rfl, h.pts_get, fun j v hj => by simpa using hj⟩) (by omega) (by omega) fun v' w h => ?_
  refine st_agg (b := b1) (xs := ecells x) h rfl ?_
  refine st_in (b := p) (v := .slice va s.l.length vc) h (ic_l ok) ?_
  refine st_in (b := p) (v := .slice va s.l.length vc) h (ic_l ok) ?_
  refine st_in (b := p) (v := .slice va s.l.length vc) h (ic_l ok) ?_
  try simp only [↓o_nil, ↓o_field, ↓o_add, ↓o_sub, ↓o_mul, ↓o_lss, ↓o_leq, ↓o_gtr, ↓o_geq, ↓o_not, ↓o_pick, ↓o_eqInt, ↓o_neInt, ↓o_eqBool, ↓o_neBool, ↓o_eqPtr, ↓o_nePtr, ↓o_eqPtr', ↓o_eqSl, ↓o_neSl, ↓o_eqStr, ↓o_neStr, ↓o_len, ↓o_lenS, ↓o_min, ↓o_max, ↓o_extract, ↓o_convInt, ↓cd_true, ↓cd_false, ↓gate_tt, ↓gate_ff, ↓gate_tf, ↓gate_ft, ↓gate_undef, ↓o_bind, ↓stay_v, ↓pop_cons, ↓fin_nil, Option.isNone_none, Option.isNone_some, Bool.not_true, Bool.not_false, Nat.zero_add, decide_true, decide_false, if_true, if_false, Bool.false_eq_true, ↓reduceIte]
  have hone : v'.oneCell' = true := by
    obtain ⟨_, _, rfl, _⟩ := osl_shape h
    rfl
  refine store_sl (b := p) h hone (by rw [ic_length ok]; omega) fun w h => ?_
  rw [ip_l ok (l := s.l ++ [x])] at h
  have ok1 : Ok { s with l := s.l ++ [x] } (m + 1) := ⟨ok.b, ok.a, ok.h, ok.b0, ok.a0, by have := ok.le; simp; omega, by simp; omega, by simp; omega⟩
  refine dr_sl h fun w h _ => ?_
  try simp only [↓o_nil, ↓o_field, ↓o_add, ↓o_sub, ↓o_mul, ↓o_lss, ↓o_leq, ↓o_gtr, ↓o_geq, ↓o_not, ↓o_pick, ↓o_eqInt, ↓o_neInt, ↓o_eqBool, ↓o_neBool, ↓o_eqPtr, ↓o_nePtr, ↓o_eqPtr', ↓o_eqSl, ↓o_neSl, ↓o_eqStr, ↓o_neStr, ↓o_len, ↓o_lenS, ↓o_min, ↓o_max, ↓o_extract, ↓o_convInt, ↓cd_true, ↓cd_false, ↓gate_tt, ↓gate_ff, ↓gate_tf, ↓gate_ft, ↓gate_undef, ↓o_bind, ↓stay_v, ↓pop_cons, ↓fin_nil, Option.isNone_none, Option.isNone_some, Bool.not_true, Bool.not_false, Nat.zero_add, decide_true, decide_false, if_true, if_false, Bool.false_eq_true, ↓reduceIte]
  refine ld_part (b := p) h (s.hd.map bv) (by simp [ok.h]) (ic_hd ok1) ?_
  refine ld_agg (b := b1) (xs := ecells x) h rfl ?_
  refine next_spec h hd.up ok.h fun w h => ?_
  try simp only [↓o_nil, ↓o_field, ↓o_add, ↓o_sub, ↓o_mul, ↓o_lss, ↓o_leq, ↓o_gtr, ↓o_geq, ↓o_not, ↓o_pick, ↓o_eqInt, ↓o_neInt, ↓o_eqBool, ↓o_neBool, ↓o_eqPtr, ↓o_nePtr, ↓o_eqPtr', ↓o_eqSl, ↓o_neSl, ↓o_eqStr, ↓o_neStr, ↓o_len, ↓o_lenS, ↓o_min, ↓o_max, ↓o_extract, ↓o_convInt, ↓cd_true, ↓cd_false, ↓gate_tt, ↓gate_ff, ↓gate_tf, ↓gate_ft, ↓gate_undef, ↓o_bind, ↓stay_v, ↓pop_cons, ↓fin_nil, Option.isNone_none, Option.isNone_some, Bool.not_true, Bool.not_false, Nat.zero_add, decide_true, decide_false, if_true, if_false, Bool.false_eq_true, ↓reduceIte]
  refine store_part (b := p) h (icells { s with l := s.l ++ [x], hd := nx s.hd x } v') (vs := (nx s.hd x).map bv) (by simp [nx_length]) (bv_one _) (by rw [ic_length ok1]; omega) (ip_hd ok1) fun w h => ?_
  have ok2 : Ok { s with l := s.l ++ [x], hd := nx s.hd x } (m + 1) := ⟨ok.b, ok.a, nx_length _ _, ok.b0, ok.a0, ok1.le, ok1.top, ok1.few⟩
  refine store_sl (b := p) h rfl (by rw [ic_length ok2]; omega) fun w h => ?_
  rw [ip_last ok2] at h
  refine ld_agg (b := b1) (xs := ecells x) h rfl ?_
  refine evt_ret (b := b0) (x := zeroE) (y := x) h fun w h => k v' w ?_
  have h := h.drop
  have h : sat E w (osl 34 4 v' (s.l.length + 1) (evs s.l ++ ecells x) * (pts b2 (.cells (ecells x).toArray 34 (0, 0)) * (pts b1 (.cells (ecells x).toArray 34 (0, 0)) * (pers (immS (.slice va s.l.length vc) s.l.length (evs s.l)) * (pts p (.cells (icells { s with l := s.l ++ [x], hd := nx s.hd x, last := t } v').toArray 59 (0, 0)) * R))))) := h.perm (by ac_rfl)
  have h := osl_freeze h
  have e9 : evs s.l ++ ecells x = evs (s.l ++ [x]) := by rw [evs_append]; simp [evs]
  rw [e9] at h
  have h := h.perm (show _ = pts b2 (.cells (ecells x).toArray 34 (0, 0)) * (pts b1 (.cells (ecells x).toArray 34 (0, 0)) * (pers (immS (.slice va s.l.length vc) s.l.length (evs s.l)) * (pts p (.cells (icells { s with l := s.l ++ [x], hd := nx s.hd x, last := t } v').toArray 59 (0, 0)) * (pers (immS v' (s.l.length + 1) (evs (s.l ++ [x]))) * R)))) by ac_rfl)
  have h := h.drop.drop.drop
  simpa [chI] using h
end Go.Proofs.YtjeiojibnmfibaaDoor

/-
  A chain's points, one behind the other; whether the events are those of the chain.
-/
set_option linter.all false
set_option maxRecDepth 10000
namespace Go.Proofs.YtjeiojibnmfibaaDoor
open Go Hold
variable {E : World0} {w : World} {H R : HP} {K : Value → World → Prop}
def links (h : List UInt8) (l : List Evt) : List UInt8 := l.foldl nx h
theorem links_length : ∀ (l : List Evt) {h : List UInt8}, h.length = 32 → (links h l).length = 32
  | [], h, hh => hh
  | x :: l, h, hh => links_length l (nx_length h x)
theorem links_snoc {h : List UInt8} {l : List Evt} {i : Nat} (hi : i < l.length) : links h (l.take (i + 1)) = nx (links h (l.take i)) (l[i]'hi) := by
  unfold links
  rw [List.take_succ_eq_append_getElem hi, List.foldl_append]
  rfl
theorem ldw_part {t n b o e : Nat} {xs : List Value} {fr : Nat × Nat} [i : AggC prog t n] (hb : w.heap[b]? = some (.cells xs.toArray e fr)) (ys : List Value) (hn : ys.length = n) (hy : (xs.drop o).take n = ys) (k : K (.agg ys.toArray) w) :
    ldv prog (Instr.loadAt t (.pointer (some ⟨b, o, none⟩))) w K := ldv_of (run_loadN hn fun j v hj => cell_of hb (by simpa using take_cell hy hj)) k
theorem ldw_cell {t b o e : Nat} {xs : List Value} {fr : Nat × Nat} {v : Value} [i : OneC prog t] (hb : w.heap[b]? = some (.cells xs.toArray e fr)) (hv : xs[o]? = some v) (k : K v w) :
    ldv prog (Instr.loadAt t (.pointer (some ⟨b, o, none⟩))) w K := ld_cell (cell_of hb (by simpa using hv)) k
def pc (s : Ch) (i : Nat) : List Value := .int .i64 (s.bn + i) :: (links s.bh (s.l.take i)).map bv
section
variable {s : Ch} {m : Nat}
theorem pc_length (ok : Ok s m) (i : Nat) : (pc s i).length = 33 := by simp [pc, links_length _ ok.b]
theorem pc_one (s : Ch) (i : Nat) : ∀ x ∈ pc s i, x.oneCell' = true := by
  intro x hx
  rcases List.mem_cons.1 hx with rfl | hx
  · rfl
  · exact bv_one _ x hx
theorem pc_zero (s : Ch) : pc s 0 = .int .i64 s.bn :: s.bh.map bv := by simp [pc, links]
theorem pc_hash (ok : Ok s m) (i : Nat) : ((pc s i).drop 1).take 32 = (links s.bh (s.l.take i)).map bv := by
  unfold pc
  rw [List.drop_succ_cons, List.drop_zero, List.take_of_length_le (by simp [links_length _ ok.b])]
end
def z57 : List Value := .int .i64 0 :: zeros32.map bv
theorem Links_spec {p c0 m : Nat} {s : Ch} {v y : Value} (ok : Ok s m) (hm : m ≤ 1000000000000000) (G : Nat → HP) (Z : HP) (h : sat E w (G 0))
    (hG0 : ∀ i {w : World}, sat E w (G i) → w.heap[c0]? = some (.cells [Value.pointer (some ⟨p, 0, none⟩)].toArray 23 (0, 0)))
    (hG1 : ∀ i {w : World}, sat E w (G i) → w.heap[p]? = some (.cells (icells s v).toArray 59 (0, 0)))
    (hGv : ∀ i, Rds (G i) v s.l.length (evs s.l)) (hGd : ∀ i, Dbt (G i))
    (hy : ∀ (F : HP) (i : Nat), i ≤ s.l.length → ∀ (w : World) (K' : Value → World → Prop), sat E w (F * G i) → (∀ w', sat E w' (F * G (i + 1)) → K' (.bool true) w') → (∀ w', sat E w' (F * Z) → K' (.bool false) w') → ef prog (oCall y #[.agg (pc s i).toArray]) w K')
    (k1 : ∀ w', sat E w' (G (s.l.length + 1)) → K (.tuple #[]) w') (k2 : ∀ w', sat E w' Z → K (.tuple #[]) w') : Calls prog 47 #[y, .pointer (some ⟨c0, 0, none⟩)] w (Ret K) := by
  have := ok.few; have := ok.top; have := ok.b0
  obtain ⟨a, c, rfl, hc, _, _⟩ := (hGv 0).shape h
  refine c47 ?_
  unfold B47
  refine ldw_cell (hG0 0 h) (v := .pointer (some ⟨p, 0, none⟩)) rfl ?_
  try simp only [↓o_nil, ↓o_field, ↓o_add, ↓o_sub, ↓o_mul, ↓o_lss, ↓o_leq, ↓o_gtr, ↓o_geq, ↓o_not, ↓o_pick, ↓o_eqInt, ↓o_neInt, ↓o_eqBool, ↓o_neBool, ↓o_eqPtr, ↓o_nePtr, ↓o_eqPtr', ↓o_eqSl, ↓o_neSl, ↓o_eqStr, ↓o_neStr, ↓o_len, ↓o_lenS, ↓o_min, ↓o_max, ↓o_extract, ↓o_convInt, ↓cd_true, ↓cd_false, ↓gate_tt, ↓gate_ff, ↓gate_tf, ↓gate_ft, ↓gate_undef, ↓o_bind, ↓stay_v, ↓pop_cons, ↓fin_nil, Option.isNone_none, Option.isNone_some, Bool.not_true, Bool.not_false, Nat.zero_add, decide_true, decide_false, if_true, if_false, Bool.false_eq_true, ↓reduceIte]
  refine ldw_part (hG1 0 h) (pc s 0) (pc_length ok 0) (by rw [pc_zero]; exact ic_base ok) ?_
  refine alloc_sl h fun q w h => ?_
  have h : sat E w (pts q (.cells z57.toArray 57 (0, 0)) * G 0) := h
  refine store_all (b := q) h (xs := z57) (vs := pc s 0) rfl (pc_length ok 0) (pc_one s 0) fun w h => ?_
  refine ld_agg (b := q) h (pc_length ok 0) ?_
  refine hy _ 0 (by omega) w _ h (fun w h => ?_) (fun w h => ?_)
  · simp only [↓o_nil, ↓o_field, ↓o_add, ↓o_sub, ↓o_mul, ↓o_lss, ↓o_leq, ↓o_gtr, ↓o_geq, ↓o_not, ↓o_pick, ↓o_eqInt, ↓o_neInt, ↓o_eqBool, ↓o_neBool, ↓o_eqPtr, ↓o_nePtr, ↓o_eqPtr', ↓o_eqSl, ↓o_neSl, ↓o_eqStr, ↓o_neStr, ↓o_len, ↓o_lenS, ↓o_min, ↓o_max, ↓o_extract, ↓o_convInt, ↓cd_true, ↓cd_false, ↓gate_tt, ↓gate_ff, ↓gate_tf, ↓gate_ft, ↓gate_undef, ↓o_bind, ↓stay_v, ↓pop_cons, ↓fin_nil, Option.isNone_none, Option.isNone_some, Bool.not_true, Bool.not_false, Nat.zero_add, decide_true, decide_false, if_true, if_false, Bool.false_eq_true, ↓reduceIte]
    refine ldw_cell (hG0 1 h.drop) (v := .pointer (some ⟨p, 0, none⟩)) rfl ?_
    try simp only [↓o_nil, ↓o_field, ↓o_add, ↓o_sub, ↓o_mul, ↓o_lss, ↓o_leq, ↓o_gtr, ↓o_geq, ↓o_not, ↓o_pick, ↓o_eqInt, ↓o_neInt, ↓o_eqBool, ↓o_neBool, ↓o_eqPtr, ↓o_nePtr, ↓o_eqPtr', ↓o_eqSl, ↓o_neSl, ↓o_eqStr, ↓o_neStr, ↓o_len, ↓o_lenS, ↓o_min, ↓o_max, ↓o_extract, ↓o_convInt, ↓cd_true, ↓cd_false, ↓gate_tt, ↓gate_ff, ↓gate_tf, ↓gate_ft, ↓gate_undef, ↓o_bind, ↓stay_v, ↓pop_cons, ↓fin_nil, Option.isNone_none, Option.isNone_some, Bool.not_true, Bool.not_false, Nat.zero_add, decide_true, decide_false, if_true, if_false, Bool.false_eq_true, ↓reduceIte]
    refine ldw_cell (hG1 1 h.drop) (v := .slice a s.l.length c) (ic_l ok) ?_
    rw [o_len]
    refine lp_nat (fun q' σ w => ∃ j : Nat, σ = [.int .i64 (j : Int)] ∧ q' = s.l.length - j ∧ j ≤ s.l.length ∧ sat E w (pts q (.cells (pc s j).toArray 57 (0, 0)) * G (j + 1))) s.l.length ⟨0, rfl, by omega, by omega, h⟩ ?_
    clear h
    rintro q' σ w again ⟨j, rfl, rfl, hj, h⟩ hag
    rw [pop_cons, fin_nil, o_lss]
    refine cd_dec (fun hlt => ?_) (fun hge => ?_)
    · have hj2 : j < s.l.length := by omega
      obtain ⟨b, o, c', e, hc', hrd⟩ := (hGv (j + 1)).opened h.drop (by rw [evs_length]; omega)
      cases e
      rw [o_index (by omega) (by omega)]
      refine ld_el h (hrd.right) (j * 4) (by simp) (ecells s.l[j]) rfl (evs_at (by simp [hj2])) ?_
      refine alloc_sl h fun x w h => ?_
      have h : sat E w (pts x (.cells (ecells zeroE).toArray 34 (0, 0)) * (pts q (.cells (pc s j).toArray 57 (0, 0)) * G (j + 1))) := h
      refine store_all (b := x) h (xs := ecells zeroE) (vs := ecells s.l[j]) rfl rfl (ecells_one _) fun w h => ?_
      refine dr_sl h fun w h _ => ?_
      try simp only [↓o_nil, ↓o_field, ↓o_add, ↓o_sub, ↓o_mul, ↓o_lss, ↓o_leq, ↓o_gtr, ↓o_geq, ↓o_not, ↓o_pick, ↓o_eqInt, ↓o_neInt, ↓o_eqBool, ↓o_neBool, ↓o_eqPtr, ↓o_nePtr, ↓o_eqPtr', ↓o_eqSl, ↓o_neSl, ↓o_eqStr, ↓o_neStr, ↓o_len, ↓o_lenS, ↓o_min, ↓o_max, ↓o_extract, ↓o_convInt, ↓cd_true, ↓cd_false, ↓gate_tt, ↓gate_ff, ↓gate_tf, ↓gate_ft, ↓gate_undef, ↓o_bind, ↓stay_v, ↓pop_cons, ↓fin_nil, Option.isNone_none, Option.isNone_some, Bool.not_true, Bool.not_false, Nat.zero_add, decide_true, decide_false, if_true, if_false, Bool.false_eq_true, ↓reduceIte]
      refine ld_in (b := q) (v := .int .i64 (s.bn + j)) h rfl ?_
      rw [o_add, i64_of (by omega) (by omega)]
      refine ld_part (b := q) h ((links s.bh (s.l.take j)).map bv) (by simp [links_length _ ok.b]) (pc_hash ok j) ?_
      refine ld_agg (b := x) (xs := ecells s.l[j]) h rfl ?_
      refine next_spec h (hGd (j + 1)).right.right (links_length _ ok.b) fun w h => ?_
      refine st_in (b := q) (v := .int .i64 (s.bn + j)) h rfl ?_
      rw [← links_snoc hj2]
      refine build57 (links_length _ ok.b) ?_
      have e2 : (.int .i64 (s.bn + (j : Int) + 1) :: (links s.bh (s.l.take (j + 1))).map bv : List Value) = pc s (j + 1) := by
        unfold pc; congr 2; omega
      rw [e2]
      refine store_all (b := q) h (xs := pc s j) (vs := pc s (j + 1)) (pc_length ok _) (pc_length ok _) (pc_one s _) fun w h => ?_
      have h := h.lose x
      refine ld_agg (b := q) h (pc_length ok _) ?_
      refine hy _ (j + 1) (by omega) w _ h (fun w h => ?_) (fun w h => ?_)
      · simp only [↓o_nil, ↓o_field, ↓o_add, ↓o_sub, ↓o_mul, ↓o_lss, ↓o_leq, ↓o_gtr, ↓o_geq, ↓o_not, ↓o_pick, ↓o_eqInt, ↓o_neInt, ↓o_eqBool, ↓o_neBool, ↓o_eqPtr, ↓o_nePtr, ↓o_eqPtr', ↓o_eqSl, ↓o_neSl, ↓o_eqStr, ↓o_neStr, ↓o_len, ↓o_lenS, ↓o_min, ↓o_max, ↓o_extract, ↓o_convInt, ↓cd_true, ↓cd_false, ↓gate_tt, ↓gate_ff, ↓gate_tf, ↓gate_ft, ↓gate_undef, ↓o_bind, ↓stay_v, ↓pop_cons, ↓fin_nil, Option.isNone_none, Option.isNone_some, Bool.not_true, Bool.not_false, Nat.zero_add, decide_true, decide_false, if_true, if_false, Bool.false_eq_true, ↓reduceIte]
        rw [i64_of (by omega) (by omega)]
        exact hag (s.l.length - (j + 1)) _ _ (by omega) ⟨j + 1, rfl, rfl, by omega, h⟩
      · simp only [↓o_nil, ↓o_field, ↓o_add, ↓o_sub, ↓o_mul, ↓o_lss, ↓o_leq, ↓o_gtr, ↓o_geq, ↓o_not, ↓o_pick, ↓o_eqInt, ↓o_neInt, ↓o_eqBool, ↓o_neBool, ↓o_eqPtr, ↓o_nePtr, ↓o_eqPtr', ↓o_eqSl, ↓o_neSl, ↓o_eqStr, ↓o_neStr, ↓o_len, ↓o_lenS, ↓o_min, ↓o_max, ↓o_extract, ↓o_convInt, ↓cd_true, ↓cd_false, ↓gate_tt, ↓gate_ff, ↓gate_tf, ↓gate_ft, ↓gate_undef, ↓o_bind, ↓stay_v, ↓pop_cons, ↓fin_nil, Option.isNone_none, Option.isNone_some, Bool.not_true, Bool.not_false, Nat.zero_add, decide_true, decide_false, if_true, if_false, Bool.false_eq_true, ↓reduceIte]
        exact k2 _ h.drop
    · have hj2 : j = s.l.length := by omega
      subst hj2
      exact k1 _ h.drop
  · simp only [↓o_nil, ↓o_field, ↓o_add, ↓o_sub, ↓o_mul, ↓o_lss, ↓o_leq, ↓o_gtr, ↓o_geq, ↓o_not, ↓o_pick, ↓o_eqInt, ↓o_neInt, ↓o_eqBool, ↓o_neBool, ↓o_eqPtr, ↓o_nePtr, ↓o_eqPtr', ↓o_eqSl, ↓o_neSl, ↓o_eqStr, ↓o_neStr, ↓o_len, ↓o_lenS, ↓o_min, ↓o_max, ↓o_extract, ↓o_convInt, ↓cd_true, ↓cd_false, ↓gate_tt, ↓gate_ff, ↓gate_tf, ↓gate_ft, ↓gate_undef, ↓o_bind, ↓stay_v, ↓pop_cons, ↓fin_nil, Option.isNone_none, Option.isNone_some, Bool.not_true, Bool.not_false, Nat.zero_add, decide_true, decide_false, if_true, if_false, Bool.false_eq_true, ↓reduceIte]
    exact k2 _ h.drop
end Go.Proofs.YtjeiojibnmfibaaDoor

/-
  Whether the events are those of the chain; letting events go.
-/
set_option linter.all false
set_option maxRecDepth 10000
namespace Go.Proofs.YtjeiojibnmfibaaDoor
open Go Hold
variable {E : World0} {w : World} {H R : HP} {K : Value → World → Prop}
def bad (s : Ch) : Prop := s.bn ≤ s.an ∧ links s.bh (s.l.take (s.an - s.bn).toNat) ≠ s.ah
instance (s : Ch) : Decidable (bad s) := by unfold bad; exact inferInstance
def verifyS (s : Ch) : Int := if bad s ∨ links s.bh s.l ≠ s.hd then 15 else 0
theorem flds57 : ∃ f g : Field, (prog.fieldsOf 57).toList = [f, g] ∧ (f.name == "_") = false ∧ (g.name == "_") = false ∧ f.type = 3 ∧ f.offset = 0 ∧ g.type = 36 ∧ g.offset = 1 :=
  ⟨(prog.fieldsOf 57).toList.getD 0 default, (prog.fieldsOf 57).toList.getD 1 default, by kernel_rfl, by kernel_rfl, by kernel_rfl, by kernel_rfl, by kernel_rfl, by kernel_rfl, by kernel_rfl⟩
theorem run_eq57 {n n' : Int} {a b : List UInt8} (ha : a.length = 32) (hb : b.length = 32) (w : World) :
    (Op.eqFields 9999 (.int .i64 n :: a.map bv).toArray (.int .i64 n' :: b.map bv).toArray (prog.fieldsOf 57).toList).run prog w = .ok (decide (n = n') && (a == b)) w := by
  obtain ⟨f, g, e, h1, h2, h3, h4, h5, h6⟩ := flds57
  rw [e]
  have x1 : ∀ l : List UInt8, l.length = 32 → ∀ n : Int, (Value.int .i64 n :: l.map bv).toArray.extract 1 (1 + 32) = (l.map bv).toArray := fun l hl n => by
    apply Array.ext'
    simp [hl]
    exact List.take_of_length_le (by simp [hl])
  refine run_eqField h1 (a := .int .i64 n) (b := .int .i64 n') (by rw [h3, h4]; exact run_part1 rfl) (by rw [h3, h4]; exact run_part1 rfl) (by rw [h3]; exact run_equalIn_int w 9998 3 .i64 .i64 n n' ul_3.ul) ?_
  have h9 := run_eqField (P := prog) (w := w) (d := 9999) (xs := (.int .i64 n :: a.map bv).toArray) (ys := (.int .i64 n' :: b.map bv).toArray) (fs := []) h2 (a := .agg (a.map bv).toArray) (b := .agg (b.map bv).toArray) (p := a == b) (q := true)
    (by rw [h5, h6, run_partN (n := 32), x1 a ha]) (by rw [h5, h6, run_partN (n := 32), x1 b hb]) (by rw [h5]; exact run_equalIn_bytes w 9997 36 5 32 ul_36.ul ul_5.ul (fun w => run_sizeOf' (oneC_5).size) a b ha hb) run_eqNone
  simpa using h9
theorem neq_pc {n n' : Int} {a b : List UInt8} (ha : a.length = 32) (hb : b.length = 32) {xo yo : Operand} :
    pvv prog (oEq .neq 57 xo yo (.agg (.int .i64 n :: a.map bv).toArray) (.agg (.int .i64 n' :: b.map bv).toArray)) w K = K (.bool !(decide (n = n') && (a == b))) w :=
  o_neStruct (by kernel_rfl) (by kernel_rfl) (by kernel_rfl) (run_eq57 ha hb)
theorem flds34 : ∃ f g h i : Field, (prog.fieldsOf 34).toList = [f, g, h, i] ∧ (f.name == "_") = false ∧ (g.name == "_") = false ∧ (h.name == "_") = false ∧ (i.name == "_") = false ∧ f.type = 3 ∧ f.offset = 0 ∧ g.type = 3 ∧ g.offset = 1 ∧ h.type = 9 ∧ h.offset = 2 ∧ i.type = 9 ∧ i.offset = 3 :=
  ⟨(prog.fieldsOf 34).toList.getD 0 default, (prog.fieldsOf 34).toList.getD 1 default, (prog.fieldsOf 34).toList.getD 2 default, (prog.fieldsOf 34).toList.getD 3 default, by kernel_rfl, by kernel_rfl, by kernel_rfl, by kernel_rfl, by kernel_rfl, by kernel_rfl, by kernel_rfl, by kernel_rfl, by kernel_rfl, by kernel_rfl, by kernel_rfl, by kernel_rfl, by kernel_rfl⟩
theorem run_eq34 (x y : Evt) (w : World) : (Op.eqFields 9999 (ecells x).toArray (ecells y).toArray (prog.fieldsOf 34).toList).run prog w = .ok (decide (x = y)) w := by
  obtain ⟨f, g, h, i, e, h1, h2, h3, h4, t1, o1, t2, o2, t3, o3, t4, o4⟩ := flds34
  rw [e]
  have s1 : ∀ a b : List UInt8, (Op.equalIn 9999 9 (tv a) (tv b)).run prog w = .ok (decide (a = b)) w := fun a b => by
    have := run_equalIn_string (P := prog) w 9998 9 ⟨a.toArray⟩ ⟨b.toArray⟩ ul_9.ul
    rw [beq_lists] at this
    exact this
  have h9 := run_eqField (P := prog) (w := w) (d := 9999) (xs := (ecells x).toArray) (ys := (ecells y).toArray) (fs := [g, h, i]) h1 (a := .int .i64 x.n) (b := .int .i64 y.n) (by rw [t1, o1]; exact run_part1 rfl) (by rw [t1, o1]; exact run_part1 rfl) (by rw [t1]; exact run_equalIn_int w 9998 3 .i64 .i64 x.n y.n ul_3.ul)
    (run_eqField h2 (a := .int .i64 x.t) (b := .int .i64 y.t) (by rw [t2, o2]; exact run_part1 rfl) (by rw [t2, o2]; exact run_part1 rfl) (by rw [t2]; exact run_equalIn_int w 9998 3 .i64 .i64 x.t y.t ul_3.ul)
      (run_eqField h3 (a := tv x.what) (b := tv y.what) (by rw [t3, o3]; exact run_part1 rfl) (by rw [t3, o3]; exact run_part1 rfl) (by rw [t3]; exact s1 _ _)
        (run_eqField h4 (a := tv x.who) (b := tv y.who) (by rw [t4, o4]; exact run_part1 rfl) (by rw [t4, o4]; exact run_part1 rfl) (by rw [t4]; exact s1 _ _) run_eqNone)))
  rw [h9]
  congr 1
  rw [Bool.eq_iff_iff]
  obtain ⟨a, b, c, d⟩ := x
  obtain ⟨a', b', c', d'⟩ := y
  simp
theorem eq_ev {x y : Evt} {xo yo : Operand} : pvv prog (oEq .eql 34 xo yo (ev x) (ev y)) w K = K (.bool (decide (x = y))) w := o_eqStruct (by kernel_rfl) (by kernel_rfl) (by kernel_rfl) (run_eq34 x y)
theorem neq_ev {x y : Evt} {xo yo : Operand} : pvv prog (oEq .neq 34 xo yo (ev x) (ev y)) w K = K (.bool !(decide (x = y))) w := o_neStruct (by kernel_rfl) (by kernel_rfl) (by kernel_rfl) (run_eq34 x y)
theorem eq36 {a b : List UInt8} (ha : a.length = 32) (hb : b.length = 32) {xo yo : Operand} : pvv prog (oEq .eql 36 xo yo (.agg (a.map bv).toArray) (.agg (b.map bv).toArray)) w K = K (.bool (a == b)) w := o_eqArr (n := 32) (by kernel_rfl) ha hb
theorem neq36 {a b : List UInt8} (ha : a.length = 32) (hb : b.length = 32) {xo yo : Operand} : pvv prog (oEq .neq 36 xo yo (.agg (a.map bv).toArray) (.agg (b.map bv).toArray)) w K = K (.bool !(a == b)) w := o_neArr (n := 32) (by kernel_rfl) ha hb
end Go.Proofs.YtjeiojibnmfibaaDoor

/-
  Whether the events are those of the chain.
-/
set_option linter.all false
set_option maxRecDepth 10000
namespace Go.Proofs.YtjeiojibnmfibaaDoor
open Go Hold
variable {E : World0} {w : World} {H R : HP} {K : Value → World → Prop}
def lastP (s : Ch) : Nat → List Value
  | 0 => z57
  | i + 1 => pc s i
theorem lastP_length {s : Ch} {m : Nat} (ok : Ok s m) : ∀ i, (lastP s i).length = 33
  | 0 => rfl
  | i + 1 => pc_length ok i
def seen (s : Ch) (i : Nat) : Prop := ∀ j : Nat, j < i → ¬ (s.bn + (j : Int) = s.an ∧ links s.bh (s.l.take j) ≠ s.ah)
theorem seen_all {s : Ch} {m : Nat} (ok : Ok s m) (h : seen s (s.l.length + 1)) : ¬ bad s := by
  rintro ⟨h1, h2⟩
  have := ok.le
  exact h (s.an - s.bn).toNat (by omega) ⟨by omega, h2⟩
abbrev boxP (b p : Nat) : HP := pts b (.cells [Value.pointer (some ⟨p, 0, none⟩)].toArray 23 (0, 0))
abbrev boxI (b : Nat) (n : Int) : HP := pts b (.cells [Value.int .i64 n].toArray 41 (0, 0))
theorem Verify_spec {p m : Nat} {s : Ch} {v : Value} (ok : Ok s m) (hm : m ≤ 1000000000000) (hd : Dbt R) (h : sat E w (chI p s v R))
    (k : ∀ w', sat E w' (chI p s v R) → K (.int .i64 (verifyS s)) w') : Calls prog 20 #[.pointer (some ⟨p, 0, none⟩)] w (Ret K) := by
  have := ok.few; have := ok.top; have := ok.b0
  refine c20 ?_
  unfold B20
  refine box_sl h fun cb w h => ?_
  have h : sat E w (boxP cb p * chI p s v R) := h
  refine alloc_sl h fun tb w h => ?_
  have h : sat E w (boxI tb 0 * (boxP cb p * chI p s v R)) := h
  refine ld_in (b := cb) (v := .pointer (some ⟨p, 0, none⟩)) h rfl ?_
  simp only [↓o_eqPtr, Option.isNone_some, ↓cd_false]
  refine alloc_sl h fun lb w h => ?_
  have h : sat E w (pts lb (.cells z57.toArray 57 (0, 0)) * (boxI tb 0 * (boxP cb p * chI p s v R))) := h
  refine ld_in (b := cb) (v := .pointer (some ⟨p, 0, none⟩)) h rfl ?_
  refine c32 ?_
  unfold B32
  refine box_sl h fun xb w h => ?_
  have h : sat E w (boxP xb p * (pts lb (.cells z57.toArray 57 (0, 0)) * (boxI tb 0 * (boxP cb p * chI p s v R)))) := h
  refine pvv_of (v := .func (.func 47) #[] #[.pointer (some ⟨xb, 0, none⟩)]) (fun _ => rfl) ?_
  refine rng_body h Tryd.func47 (by kernel_rfl) (by kernel_rfl) fun rec D D1 w h hround => ?_
  refine Links_spec (E := E) (p := p) (v := v) (c0 := xb) ok (by omega)
    (fun i => pur (seen s i) * (pts D1 (rec .ready none) * (pts lb (.cells (lastP s i).toArray 57 (0, 0)) * (boxI tb 0 * (pts D (.deferred (some [])) * (boxP xb p * (boxP cb p * chI p s v R)))))))
    (pur (bad s) * (pts D1 (rec .done (some .ret)) * (boxI tb 15 * (pts D (.deferred (some [])) * (boxP xb p * (boxP cb p * chI p s v R))))))
    (sat_pur_star.2 ⟨fun j hj => by omega, h.perm (by ac_rfl)⟩) ?_ ?_ ?_ ?_ ?_ ?_ ?_
  · intro i w h
    exact ((sat_pur_star.1 h).2).has
  · intro i w h
    exact ((sat_pur_star.1 h).2).has
  · intro i
    exact Rds.under (H1 := pers (immS v s.l.length (evs s.l))) Rds.pers
  · intro i
    exact hd.up
  · clear h
    intro F i hi w K' h ht hf
    rw [star_left_comm] at h
    obtain ⟨hφ, h⟩ := sat_pur_star.1 h
    refine hround [.agg (pc s i).toArray] w K' rfl h.has ?_
    simp only [↓o_nil, ↓o_field, ↓o_add, ↓o_sub, ↓o_mul, ↓o_lss, ↓o_leq, ↓o_gtr, ↓o_geq, ↓o_not, ↓o_pick, ↓o_eqInt, ↓o_neInt, ↓o_eqBool, ↓o_neBool, ↓o_eqPtr, ↓o_nePtr, ↓o_eqPtr', ↓o_eqSl, ↓o_neSl, ↓o_eqStr, ↓o_neStr, ↓o_len, ↓o_lenS, ↓o_min, ↓o_max, ↓o_extract, ↓o_convInt, ↓cd_true, ↓cd_false, ↓gate_tt, ↓gate_ff, ↓gate_tf, ↓gate_ft, ↓gate_undef, ↓o_bind, ↓stay_v, ↓pop_cons, ↓fin_nil, Option.isNone_none, Option.isNone_some, Bool.not_true, Bool.not_false, Nat.zero_add, decide_true, decide_false, if_true, if_false, Bool.false_eq_true, ↓reduceIte]
    refine alloc_sl h fun pb w h => ?_
    have h : sat E w (pts pb (.cells z57.toArray 57 (0, 0)) * (F * (pts D1 (rec .ready none) * (pts lb (.cells (lastP s i).toArray 57 (0, 0)) * (boxI tb 0 * (pts D (.deferred (some [])) * (boxP xb p * (boxP cb p * chI p s v R)))))))) := h
    refine store_all (b := pb) h (xs := z57) (vs := pc s i) rfl (pc_length ok i) (pc_one s i) fun w h => ?_
    refine ⟨h.has, ?_⟩
    have h := (h.own D1).set (rec .busy none)
    refine dr_sl h fun w h _ => ?_
    try simp only [↓o_nil, ↓o_field, ↓o_add, ↓o_sub, ↓o_mul, ↓o_lss, ↓o_leq, ↓o_gtr, ↓o_geq, ↓o_not, ↓o_pick, ↓o_eqInt, ↓o_neInt, ↓o_eqBool, ↓o_neBool, ↓o_eqPtr, ↓o_nePtr, ↓o_eqPtr', ↓o_eqSl, ↓o_neSl, ↓o_eqStr, ↓o_neStr, ↓o_len, ↓o_lenS, ↓o_min, ↓o_max, ↓o_extract, ↓o_convInt, ↓cd_true, ↓cd_false, ↓gate_tt, ↓gate_ff, ↓gate_tf, ↓gate_ft, ↓gate_undef, ↓o_bind, ↓stay_v, ↓pop_cons, ↓fin_nil, Option.isNone_none, Option.isNone_some, Bool.not_true, Bool.not_false, Nat.zero_add, decide_true, decide_false, if_true, if_false, Bool.false_eq_true, ↓reduceIte]
    refine ld_in (b := pb) (v := .int .i64 (s.bn + i)) h rfl ?_
    refine ld_in (b := cb) (v := .pointer (some ⟨p, 0, none⟩)) h rfl ?_
    try simp only [↓o_nil, ↓o_field, ↓o_add, ↓o_sub, ↓o_mul, ↓o_lss, ↓o_leq, ↓o_gtr, ↓o_geq, ↓o_not, ↓o_pick, ↓o_eqInt, ↓o_neInt, ↓o_eqBool, ↓o_neBool, ↓o_eqPtr, ↓o_nePtr, ↓o_eqPtr', ↓o_eqSl, ↓o_neSl, ↓o_eqStr, ↓o_neStr, ↓o_len, ↓o_lenS, ↓o_min, ↓o_max, ↓o_extract, ↓o_convInt, ↓cd_true, ↓cd_false, ↓gate_tt, ↓gate_ff, ↓gate_tf, ↓gate_ft, ↓gate_undef, ↓o_bind, ↓stay_v, ↓pop_cons, ↓fin_nil, Option.isNone_none, Option.isNone_some, Bool.not_true, Bool.not_false, Nat.zero_add, decide_true, decide_false, if_true, if_false, Bool.false_eq_true, ↓reduceIte]
    refine ld_in (b := p) (v := .int .i64 s.an) h (ic_an ok) ?_
    rw [o_eqInt]
    have norm : ∀ w : World, sat E w (pts D1 (rec .busy none) * (pts pb (.cells (pc s i).toArray 57 (0, 0)) * (F * (pts lb (.cells (lastP s i).toArray 57 (0, 0)) * (boxI tb 0 * (pts D (.deferred (some [])) * (boxP xb p * (boxP cb p * chI p s v R)))))))) → seen s (i + 1) →
        ldv prog (Instr.loadAt 57 (.pointer (some ⟨pb, 0, none⟩))) w fun t_36 w => efu prog (Instr.storeAt 57 (.pointer (some ⟨lb, 0, none⟩)) t_36) w fun u_37 w => w.heap[D1]? = some (rec .busy none) ∧ K' (.bool true) (w.putObj D1 (rec .ready none)) := by
      intro w h hs
      refine ld_agg (b := pb) h (pc_length ok i) ?_
      refine store_all (b := lb) h (xs := lastP s i) (vs := pc s i) (lastP_length ok i) (pc_length ok i) (pc_one s i) fun w h => ?_
      refine ⟨h.has, ht _ ?_⟩
      have h := (h.own D1).set (rec .ready none)
      have h := h.lose pb
      rw [star_left_comm]
      exact sat_pur_star.2 ⟨hs, h.perm (by simp only [lastP]; ac_rfl)⟩
    by_cases hq : s.bn + (i : Int) = s.an
    · rw [decide_eq_true hq]
      simp only [↓o_nil, ↓o_field, ↓o_add, ↓o_sub, ↓o_mul, ↓o_lss, ↓o_leq, ↓o_gtr, ↓o_geq, ↓o_not, ↓o_pick, ↓o_eqInt, ↓o_neInt, ↓o_eqBool, ↓o_neBool, ↓o_eqPtr, ↓o_nePtr, ↓o_eqPtr', ↓o_eqSl, ↓o_neSl, ↓o_eqStr, ↓o_neStr, ↓o_len, ↓o_lenS, ↓o_min, ↓o_max, ↓o_extract, ↓o_convInt, ↓cd_true, ↓cd_false, ↓gate_tt, ↓gate_ff, ↓gate_tf, ↓gate_ft, ↓gate_undef, ↓o_bind, ↓stay_v, ↓pop_cons, ↓fin_nil, Option.isNone_none, Option.isNone_some, Bool.not_true, Bool.not_false, Nat.zero_add, decide_true, decide_false, if_true, if_false, Bool.false_eq_true, ↓reduceIte]
      refine ld_agg (b := pb) h (pc_length ok i) ?_
      refine ld_in (b := cb) (v := .pointer (some ⟨p, 0, none⟩)) h rfl ?_
      try simp only [↓o_nil, ↓o_field, ↓o_add, ↓o_sub, ↓o_mul, ↓o_lss, ↓o_leq, ↓o_gtr, ↓o_geq, ↓o_not, ↓o_pick, ↓o_eqInt, ↓o_neInt, ↓o_eqBool, ↓o_neBool, ↓o_eqPtr, ↓o_nePtr, ↓o_eqPtr', ↓o_eqSl, ↓o_neSl, ↓o_eqStr, ↓o_neStr, ↓o_len, ↓o_lenS, ↓o_min, ↓o_max, ↓o_extract, ↓o_convInt, ↓cd_true, ↓cd_false, ↓gate_tt, ↓gate_ff, ↓gate_tf, ↓gate_ft, ↓gate_undef, ↓o_bind, ↓stay_v, ↓pop_cons, ↓fin_nil, Option.isNone_none, Option.isNone_some, Bool.not_true, Bool.not_false, Nat.zero_add, decide_true, decide_false, if_true, if_false, Bool.false_eq_true, ↓reduceIte]
      refine ld_part (b := p) h (.int .i64 s.an :: s.ah.map bv) (by simp [ok.a]) (ic_anchor ok) ?_
      have e1 : ∀ (xo yo : Operand) (K : Value → World → Prop), pvv prog (oEq .neq 57 xo yo (.agg (pc s i).toArray) (.agg (.int .i64 s.an :: s.ah.map bv).toArray)) w K = K (.bool !(decide (s.bn + (i : Int) = s.an) && (links s.bh (s.l.take i) == s.ah))) w := fun xo yo K => neq_pc (links_length _ ok.b) ok.a
      rw [e1]
      by_cases hr : links s.bh (s.l.take i) = s.ah
      · rw [show (!(decide (s.bn + (i : Int) = s.an) && (links s.bh (s.l.take i) == s.ah))) = false by simp [hq, hr]]
        simp only [↓o_nil, ↓o_field, ↓o_add, ↓o_sub, ↓o_mul, ↓o_lss, ↓o_leq, ↓o_gtr, ↓o_geq, ↓o_not, ↓o_pick, ↓o_eqInt, ↓o_neInt, ↓o_eqBool, ↓o_neBool, ↓o_eqPtr, ↓o_nePtr, ↓o_eqPtr', ↓o_eqSl, ↓o_neSl, ↓o_eqStr, ↓o_neStr, ↓o_len, ↓o_lenS, ↓o_min, ↓o_max, ↓o_extract, ↓o_convInt, ↓cd_true, ↓cd_false, ↓gate_tt, ↓gate_ff, ↓gate_tf, ↓gate_ft, ↓gate_undef, ↓o_bind, ↓stay_v, ↓pop_cons, ↓fin_nil, Option.isNone_none, Option.isNone_some, Bool.not_true, Bool.not_false, Nat.zero_add, decide_true, decide_false, if_true, if_false, Bool.false_eq_true, ↓reduceIte]
        exact norm w (h.perm (by ac_rfl)) fun j hj => by
          rintro ⟨h1, h2⟩
          by_cases hji : j = i
          · subst hji; exact h2 hr
          · exact hφ j (by omega) ⟨h1, h2⟩
      · rw [show (!(decide (s.bn + (i : Int) = s.an) && (links s.bh (s.l.take i) == s.ah))) = true by simp [hr]]
        simp only [↓o_nil, ↓o_field, ↓o_add, ↓o_sub, ↓o_mul, ↓o_lss, ↓o_leq, ↓o_gtr, ↓o_geq, ↓o_not, ↓o_pick, ↓o_eqInt, ↓o_neInt, ↓o_eqBool, ↓o_neBool, ↓o_eqPtr, ↓o_nePtr, ↓o_eqPtr', ↓o_eqSl, ↓o_neSl, ↓o_eqStr, ↓o_neStr, ↓o_len, ↓o_lenS, ↓o_min, ↓o_max, ↓o_extract, ↓o_convInt, ↓cd_true, ↓cd_false, ↓gate_tt, ↓gate_ff, ↓gate_tf, ↓gate_ft, ↓gate_undef, ↓o_bind, ↓stay_v, ↓pop_cons, ↓fin_nil, Option.isNone_none, Option.isNone_some, Bool.not_true, Bool.not_false, Nat.zero_add, decide_true, decide_false, if_true, if_false, Bool.false_eq_true, ↓reduceIte]
        refine store_sl (b := tb) h rfl (by simp) fun w h => ?_
        have h : sat E w (boxI tb 15 * _) := h
        refine ⟨h.has, hf _ ?_⟩
        have h := (h.own D1).set (rec .done (some .ret))
        have h := (h.lose pb).lose lb
        rw [star_left_comm]
        refine sat_pur_star.2 ⟨⟨by omega, by rw [show (s.an - s.bn).toNat = i by omega]; exact hr⟩, ?_⟩
        have h : sat E _ (pts D1 (rec .done (some .ret)) * _) := h
        exact h.perm (by ac_rfl)
    · rw [decide_eq_false hq]
      simp only [↓o_nil, ↓o_field, ↓o_add, ↓o_sub, ↓o_mul, ↓o_lss, ↓o_leq, ↓o_gtr, ↓o_geq, ↓o_not, ↓o_pick, ↓o_eqInt, ↓o_neInt, ↓o_eqBool, ↓o_neBool, ↓o_eqPtr, ↓o_nePtr, ↓o_eqPtr', ↓o_eqSl, ↓o_neSl, ↓o_eqStr, ↓o_neStr, ↓o_len, ↓o_lenS, ↓o_min, ↓o_max, ↓o_extract, ↓o_convInt, ↓cd_true, ↓cd_false, ↓gate_tt, ↓gate_ff, ↓gate_tf, ↓gate_ft, ↓gate_undef, ↓o_bind, ↓stay_v, ↓pop_cons, ↓fin_nil, Option.isNone_none, Option.isNone_some, Bool.not_true, Bool.not_false, Nat.zero_add, decide_true, decide_false, if_true, if_false, Bool.false_eq_true, ↓reduceIte]
      exact norm w (h.perm (by ac_rfl)) fun j hj => by
        rintro ⟨h1, h2⟩
        by_cases hji : j = i
        · subst hji; exact hq h1
        · exact hφ j (by omega) ⟨h1, h2⟩
  · intro w h
    obtain ⟨hφ, h⟩ := sat_pur_star.1 h
    have hnb := seen_all ok hφ
    refine ⟨.ready, none, h.has, by simp, ?_⟩
    have h := (h.own D1).set (rec .exhausted none)
    simp only [jump]
    refine dr_sl h fun w h _ => ?_
    try simp only [↓o_nil, ↓o_field, ↓o_add, ↓o_sub, ↓o_mul, ↓o_lss, ↓o_leq, ↓o_gtr, ↓o_geq, ↓o_not, ↓o_pick, ↓o_eqInt, ↓o_neInt, ↓o_eqBool, ↓o_neBool, ↓o_eqPtr, ↓o_nePtr, ↓o_eqPtr', ↓o_eqSl, ↓o_neSl, ↓o_eqStr, ↓o_neStr, ↓o_len, ↓o_lenS, ↓o_min, ↓o_max, ↓o_extract, ↓o_convInt, ↓cd_true, ↓cd_false, ↓gate_tt, ↓gate_ff, ↓gate_tf, ↓gate_ft, ↓gate_undef, ↓o_bind, ↓stay_v, ↓pop_cons, ↓fin_nil, Option.isNone_none, Option.isNone_some, Bool.not_true, Bool.not_false, Nat.zero_add, decide_true, decide_false, if_true, if_false, Bool.false_eq_true, ↓reduceIte]
    refine ld_part (b := lb) h ((links s.bh (s.l.take s.l.length)).map bv) (by simp [links_length _ ok.b]) (pc_hash ok s.l.length) ?_
    refine ld_in (b := cb) (v := .pointer (some ⟨p, 0, none⟩)) h rfl ?_
    try simp only [↓o_nil, ↓o_field, ↓o_add, ↓o_sub, ↓o_mul, ↓o_lss, ↓o_leq, ↓o_gtr, ↓o_geq, ↓o_not, ↓o_pick, ↓o_eqInt, ↓o_neInt, ↓o_eqBool, ↓o_neBool, ↓o_eqPtr, ↓o_nePtr, ↓o_eqPtr', ↓o_eqSl, ↓o_neSl, ↓o_eqStr, ↓o_neStr, ↓o_len, ↓o_lenS, ↓o_min, ↓o_max, ↓o_extract, ↓o_convInt, ↓cd_true, ↓cd_false, ↓gate_tt, ↓gate_ff, ↓gate_tf, ↓gate_ft, ↓gate_undef, ↓o_bind, ↓stay_v, ↓pop_cons, ↓fin_nil, Option.isNone_none, Option.isNone_some, Bool.not_true, Bool.not_false, Nat.zero_add, decide_true, decide_false, if_true, if_false, Bool.false_eq_true, ↓reduceIte]
    refine ld_part (b := p) h (s.hd.map bv) (by simp [ok.h]) (ic_hd ok) ?_
    rw [neq36 (links_length _ ok.b) ok.h, List.take_length]
    by_cases hr : links s.bh s.l = s.hd
    · have e : verifyS s = 0 := by unfold verifyS; rw [if_neg (by rintro (h | h); exact hnb h; exact h hr)]
      rw [e] at k
      rw [show (!(links s.bh s.l == s.hd)) = false by simp [hr]]
      simp only [↓o_nil, ↓o_field, ↓o_add, ↓o_sub, ↓o_mul, ↓o_lss, ↓o_leq, ↓o_gtr, ↓o_geq, ↓o_not, ↓o_pick, ↓o_eqInt, ↓o_neInt, ↓o_eqBool, ↓o_neBool, ↓o_eqPtr, ↓o_nePtr, ↓o_eqPtr', ↓o_eqSl, ↓o_neSl, ↓o_eqStr, ↓o_neStr, ↓o_len, ↓o_lenS, ↓o_min, ↓o_max, ↓o_extract, ↓o_convInt, ↓cd_true, ↓cd_false, ↓gate_tt, ↓gate_ff, ↓gate_tf, ↓gate_ft, ↓gate_undef, ↓o_bind, ↓stay_v, ↓pop_cons, ↓fin_nil, Option.isNone_none, Option.isNone_some, Bool.not_true, Bool.not_false, Nat.zero_add, decide_true, decide_false, if_true, if_false, Bool.false_eq_true, ↓reduceIte]
      refine store_sl (b := tb) h rfl (by simp) fun w h => ?_
      refine ⟨h.has, ?_⟩
      have h := (h.own D).set (.deferred none)
      refine res_one (b := tb) h (v := .int .i64 0) rfl (k _ ?_)
      have h := (((((h.lose D).lose tb).lose D1).lose lb).lose xb).lose cb
      exact h.perm (by ac_rfl)
    · have e : verifyS s = 15 := by unfold verifyS; rw [if_pos (.inr hr)]
      rw [e] at k
      rw [show (!(links s.bh s.l == s.hd)) = true by simp [hr]]
      simp only [↓o_nil, ↓o_field, ↓o_add, ↓o_sub, ↓o_mul, ↓o_lss, ↓o_leq, ↓o_gtr, ↓o_geq, ↓o_not, ↓o_pick, ↓o_eqInt, ↓o_neInt, ↓o_eqBool, ↓o_neBool, ↓o_eqPtr, ↓o_nePtr, ↓o_eqPtr', ↓o_eqSl, ↓o_neSl, ↓o_eqStr, ↓o_neStr, ↓o_len, ↓o_lenS, ↓o_min, ↓o_max, ↓o_extract, ↓o_convInt, ↓cd_true, ↓cd_false, ↓gate_tt, ↓gate_ff, ↓gate_tf, ↓gate_ft, ↓gate_undef, ↓o_bind, ↓stay_v, ↓pop_cons, ↓fin_nil, Option.isNone_none, Option.isNone_some, Bool.not_true, Bool.not_false, Nat.zero_add, decide_true, decide_false, if_true, if_false, Bool.false_eq_true, ↓reduceIte]
      refine store_sl (b := tb) h rfl (by simp) fun w h => ?_
      refine ⟨h.has, ?_⟩
      have h := (h.own D).set (.deferred none)
      refine res_one (b := tb) h (v := .int .i64 15) rfl (k _ ?_)
      have h := (((((h.lose D).lose tb).lose D1).lose lb).lose xb).lose cb
      exact h.perm (by ac_rfl)
  · intro w h
    obtain ⟨hb, h⟩ := sat_pur_star.1 h
    have e : verifyS s = 15 := by unfold verifyS; rw [if_pos (.inl hb)]
    rw [e] at k
    refine ⟨.done, some .ret, h.has, by simp, ?_⟩
    have h := (h.own D1).set (rec .exhausted (some .ret))
    simp only [jump]
    refine ⟨h.has, ?_⟩
    have h := (h.own D).set (.deferred none)
    refine res_one (b := tb) h (v := .int .i64 15) rfl (k _ ?_)
    have h := ((((h.lose D).lose tb).lose D1).lose xb).lose cb
    exact h.perm (by ac_rfl)
end Go.Proofs.YtjeiojibnmfibaaDoor

/-
  Letting events go.
-/
set_option linter.all false
set_option maxRecDepth 10000
namespace Go.Proofs.YtjeiojibnmfibaaDoor
open Go Hold
variable {E : World0} {w : World} {H R : HP} {K : Value → World → Prop}
def pruneS (s : Ch) (n : Int) : Ch × Int × Int :=
  if s.an < n ∨ n < s.bn then (s, 0, 2)
  else ({ s with bn := n, bh := links s.bh (s.l.take (n - s.bn).toNat), l := s.l.drop (n - s.bn).toNat }, n - s.bn, 0)
theorem ok_prune {s : Ch} {m : Nat} {n : Int} (ok : Ok s m) : Ok (pruneS s n).1 m := by
  unfold pruneS
  split
  · exact ok
  · have := ok.le; have := ok.top; have := ok.b0; have := ok.few
    exact ⟨links_length _ ok.b, ok.a, ok.h, by simp only; omega, ok.a0, by simp only [List.length_drop]; omega, by simp only [List.length_drop]; omega, by simp only [List.length_drop]; omega⟩
abbrev boxN (b : Nat) (n : Int) : HP := pts b (.cells [Value.int .i64 n].toArray 3 (0, 0))
theorem Prune_nil (h : sat E w H) {n : Int} (k : ∀ w', sat E w' H → K (.tuple #[.int .i64 0, .int .i64 1]) w') : Calls prog 18 #[.pointer none, .int .i64 n] w (Ret K) := by
  refine c18 ?_
  unfold B18
  refine box_sl h fun cb w h => ?_
  have h : sat E w (pts cb (.cells [Value.pointer none].toArray 23 (0, 0)) * H) := h
  refine box_sl h fun nb w h => ?_
  refine ld_in (b := cb) (v := .pointer none) h rfl ?_
  simp only [↓o_eqPtr, Option.isNone_none, ↓cd_true]
  exact k _ h.drop.drop
theorem Verify_nil (h : sat E w H) (k : ∀ w', sat E w' H → K (.int .i64 1) w') : Calls prog 20 #[.pointer none] w (Ret K) := by
  refine c20 ?_
  unfold B20
  refine box_sl h fun cb w h => ?_
  have h : sat E w (pts cb (.cells [Value.pointer none].toArray 23 (0, 0)) * H) := h
  refine alloc_sl h fun tb w h => ?_
  have h : sat E w (boxI tb 0 * (pts cb (.cells [Value.pointer none].toArray 23 (0, 0)) * H)) := h
  refine ld_in (b := cb) (v := .pointer none) h rfl ?_
  simp only [↓o_eqPtr, Option.isNone_none, ↓cd_true]
  refine store_sl (b := tb) h rfl (by simp) fun w h => ?_
  exact res_one (b := tb) h (v := .int .i64 1) rfl (k _ h.drop.drop)
theorem Anchor_nil (h : sat E w H) (k : ∀ w', sat E w' H → K (.tuple #[.int .i64 0, .agg (zeros32.map bv).toArray]) w') : Calls prog 17 #[.pointer none] w (Ret K) := by
  refine c17 ?_
  unfold B17
  refine alloc_sl h fun b w h => ?_
  have h : sat E w (pts b (.cells (zeros32.map bv).toArray 36 (0, 0)) * H) := h
  simp only [↓o_eqPtr, Option.isNone_none, ↓cd_true]
  refine zeroH_build ?_
  exact hash_ret3 (b := b) h (l := zeros32) rfl (ol := zeros32) rfl fun w h => k _ h.drop
/-- What follows the search. -/
theorem prune_end {p m cb D kk : Nat} {s : Ch} {v : Value} (ok : Ok s m) (hk : kk ≤ s.l.length)
    (h : sat E w (pts D (.deferred (some [])) * (boxP cb p * chI p s v R)))
    (k : ∀ v' w', sat E w' (chI p { s with l := s.l.drop kk } v' R) → K (.tuple #[.int .i64 kk, .int .i64 0]) w') :
    dr w fun w =>
    bindS (vN (Instr.loadAt 23 (.pointer (some ⟨cb, 0, none⟩)))) fun m_54 => ldv prog (Instr.loadAt 23 (.pointer (some ⟨cb, 0, none⟩))) w fun t_53 w =>
    bindS (vN (Instr.loadAt 23 (.pointer (some ⟨cb, 0, none⟩)))) fun m_56 => ldv prog (Instr.loadAt 23 (.pointer (some ⟨cb, 0, none⟩))) w fun t_55 w =>
    pv prog (oNil t_55) w fun t_57 w =>
    pvv prog (Instr.fieldAt 59 t_57 4) w fun t_58 w =>
    bindS (vN (Instr.loadAt 31 t_58)) fun m_60 => ldv prog (Instr.loadAt 31 t_58) w fun t_59 w =>
    pvv prog (Instr.sliceAt 31 t_59 (some (.int .i64 (kk : Int))) none none) w fun t_61 w =>
    Calls prog 30 #[t_61] w (Ret fun t_62 w => stay prog none m_60 t_59 w <| stay prog none m_56 t_55 w <| stay prog none m_54 t_53 w <|
    pv prog (oNil t_53) w fun t_63 w =>
    pvv prog (Instr.fieldAt 59 t_63 4) w fun t_64 w =>
    efu prog (Instr.storeAt 31 t_64 t_62) w fun u_65 w =>
    und [D] w fun w => K (.tuple #[.int .i64 (kk : Int), (.int .i64 0)]) w) := by
  have := ok.few
  obtain ⟨a, c, rfl, hc, hv, ha⟩ := (Rds.evs (s := s)).shape h.drop.drop
  refine dr_sl h fun w h _ => ?_
  try simp only [↓o_nil, ↓o_field, ↓o_add, ↓o_sub, ↓o_mul, ↓o_lss, ↓o_leq, ↓o_gtr, ↓o_geq, ↓o_not, ↓o_pick, ↓o_eqInt, ↓o_neInt, ↓o_eqBool, ↓o_neBool, ↓o_eqPtr, ↓o_nePtr, ↓o_eqPtr', ↓o_eqSl, ↓o_neSl, ↓o_eqStr, ↓o_neStr, ↓o_len, ↓o_lenS, ↓o_min, ↓o_max, ↓o_extract, ↓o_convInt, ↓cd_true, ↓cd_false, ↓gate_tt, ↓gate_ff, ↓gate_tf, ↓gate_ft, ↓gate_undef, ↓o_bind, ↓stay_v, ↓pop_cons, ↓fin_nil, Option.isNone_none, Option.isNone_some, Bool.not_true, Bool.not_false, Nat.zero_add, decide_true, decide_false, if_true, if_false, Bool.false_eq_true, ↓reduceIte]
  refine ld_in (b := cb) (v := .pointer (some ⟨p, 0, none⟩)) h rfl ?_
  refine ld_in (b := cb) (v := .pointer (some ⟨p, 0, none⟩)) h rfl ?_
  try simp only [↓o_nil, ↓o_field, ↓o_add, ↓o_sub, ↓o_mul, ↓o_lss, ↓o_leq, ↓o_gtr, ↓o_geq, ↓o_not, ↓o_pick, ↓o_eqInt, ↓o_neInt, ↓o_eqBool, ↓o_neBool, ↓o_eqPtr, ↓o_nePtr, ↓o_eqPtr', ↓o_eqSl, ↓o_neSl, ↓o_eqStr, ↓o_neStr, ↓o_len, ↓o_lenS, ↓o_min, ↓o_max, ↓o_extract, ↓o_convInt, ↓cd_true, ↓cd_false, ↓gate_tt, ↓gate_ff, ↓gate_tf, ↓gate_ft, ↓gate_undef, ↓o_bind, ↓stay_v, ↓pop_cons, ↓fin_nil, Option.isNone_none, Option.isNone_some, Bool.not_true, Bool.not_false, Nat.zero_add, decide_true, decide_false, if_true, if_false, Bool.false_eq_true, ↓reduceIte]
  refine ld_in (b := p) (v := .slice a s.l.length c) h (ic_l ok) ?_
  rw [o_slice_l (by omega) (by omega)]
  simp only [Int.toNat_natCast]
  have hcut : Rds (pts D (.deferred (some [])) * (boxP cb p * chI p s (.slice a s.l.length c) R)) (.slice (cutA a c kk 4) (s.l.length - kk) (c - kk)) (s.l.length - kk) (evs (s.l.drop kk)) := by
    intro E w hs
    obtain ⟨a', c', e', hc', hw'⟩ := hv E w hs.drop.drop
    cases e'
    refine ⟨_, _, rfl, by omega, ?_⟩
    rw [← evs_drop]
    exact win_cut hw' fun hcn => by rw [evs_length]; omega
  refine CloneE_spec h (by rw [evs_length, List.length_drop]) (evs_one _) hcut (by omega) fun v' w h => ?_
  try simp only [↓o_nil, ↓o_field, ↓o_add, ↓o_sub, ↓o_mul, ↓o_lss, ↓o_leq, ↓o_gtr, ↓o_geq, ↓o_not, ↓o_pick, ↓o_eqInt, ↓o_neInt, ↓o_eqBool, ↓o_neBool, ↓o_eqPtr, ↓o_nePtr, ↓o_eqPtr', ↓o_eqSl, ↓o_neSl, ↓o_eqStr, ↓o_neStr, ↓o_len, ↓o_lenS, ↓o_min, ↓o_max, ↓o_extract, ↓o_convInt, ↓cd_true, ↓cd_false, ↓gate_tt, ↓gate_ff, ↓gate_tf, ↓gate_ft, ↓gate_undef, ↓o_bind, ↓stay_v, ↓pop_cons, ↓fin_nil, Option.isNone_none, Option.isNone_some, Bool.not_true, Bool.not_false, Nat.zero_add, decide_true, decide_false, if_true, if_false, Bool.false_eq_true, ↓reduceIte]
  refine st_in (b := p) (v := .slice a s.l.length c) h (ic_l ok) ?_
  refine st_in (b := cb) (v := .pointer (some ⟨p, 0, none⟩)) h rfl ?_
  refine st_in (b := cb) (v := .pointer (some ⟨p, 0, none⟩)) h rfl ?_
  try simp only [↓o_nil, ↓o_field, ↓o_add, ↓o_sub, ↓o_mul, ↓o_lss, ↓o_leq, ↓o_gtr, ↓o_geq, ↓o_not, ↓o_pick, ↓o_eqInt, ↓o_neInt, ↓o_eqBool, ↓o_neBool, ↓o_eqPtr, ↓o_nePtr, ↓o_eqPtr', ↓o_eqSl, ↓o_neSl, ↓o_eqStr, ↓o_neStr, ↓o_len, ↓o_lenS, ↓o_min, ↓o_max, ↓o_extract, ↓o_convInt, ↓cd_true, ↓cd_false, ↓gate_tt, ↓gate_ff, ↓gate_tf, ↓gate_ft, ↓gate_undef, ↓o_bind, ↓stay_v, ↓pop_cons, ↓fin_nil, Option.isNone_none, Option.isNone_some, Bool.not_true, Bool.not_false, Nat.zero_add, decide_true, decide_false, if_true, if_false, Bool.false_eq_true, ↓reduceIte]
  have hone : v'.oneCell' = true := by
    obtain ⟨_, _, rfl, _⟩ := osl_shape h
    rfl
  refine store_sl (b := p) h hone (by rw [ic_length ok]; omega) fun w h => ?_
  rw [ip_l ok (l := s.l.drop kk)] at h
  refine ⟨h.has, ?_⟩
  have h := (h.own D).set (.deferred none)
  refine k v' _ ?_
  have h := (h.lose D).lose cb
  have h := h.perm (show _ = osl 34 4 v' (s.l.length - kk) (evs (s.l.drop kk)) * (pers (immS (.slice a s.l.length c) s.l.length (evs s.l)) * (pts p (.cells (icells { s with l := s.l.drop kk } v').toArray 59 (0, 0)) * R)) by ac_rfl)
  have h := osl_freeze h
  have h := h.perm (show _ = pers (immS (.slice a s.l.length c) s.l.length (evs s.l)) * (pts p (.cells (icells { s with l := s.l.drop kk } v').toArray 59 (0, 0)) * (pers (immS v' (s.l.length - kk) (evs (s.l.drop kk))) * R)) by ac_rfl)
  have h := h.drop
  simpa [chI] using h
theorem Prune_spec {p m : Nat} {s : Ch} {v : Value} {n : Int} (ok : Ok s m) (hm : m ≤ 1000000000000) (hd : Dbt R) (h : sat E w (chI p s v R))
    (k : ∀ v' w', sat E w' (chI p (pruneS s n).1 v' R) → K (.tuple #[.int .i64 (pruneS s n).2.1, .int .i64 (pruneS s n).2.2]) w') : Calls prog 18 #[.pointer (some ⟨p, 0, none⟩), .int .i64 n] w (Ret K) := by
  have := ok.few; have := ok.top; have := ok.b0; have := ok.le
  refine c18 ?_
  unfold B18
  refine box_sl h fun cb w h => ?_
  have h : sat E w (boxP cb p * chI p s v R) := h
  refine box_sl h fun nb w h => ?_
  have h : sat E w (boxN nb n * (boxP cb p * chI p s v R)) := h
  refine ld_in (b := cb) (v := .pointer (some ⟨p, 0, none⟩)) h rfl ?_
  simp only [↓o_eqPtr, Option.isNone_some, ↓cd_false]
  refine dr_sl h fun w h _ => ?_
  try simp only [↓o_nil, ↓o_field, ↓o_add, ↓o_sub, ↓o_mul, ↓o_lss, ↓o_leq, ↓o_gtr, ↓o_geq, ↓o_not, ↓o_pick, ↓o_eqInt, ↓o_neInt, ↓o_eqBool, ↓o_neBool, ↓o_eqPtr, ↓o_nePtr, ↓o_eqPtr', ↓o_eqSl, ↓o_neSl, ↓o_eqStr, ↓o_neStr, ↓o_len, ↓o_lenS, ↓o_min, ↓o_max, ↓o_extract, ↓o_convInt, ↓cd_true, ↓cd_false, ↓gate_tt, ↓gate_ff, ↓gate_tf, ↓gate_ft, ↓gate_undef, ↓o_bind, ↓stay_v, ↓pop_cons, ↓fin_nil, Option.isNone_none, Option.isNone_some, Bool.not_true, Bool.not_false, Nat.zero_add, decide_true, decide_false, if_true, if_false, Bool.false_eq_true, ↓reduceIte]
  refine ld_in (b := nb) (v := .int .i64 n) h rfl ?_
  refine ld_in (b := cb) (v := .pointer (some ⟨p, 0, none⟩)) h rfl ?_
  try simp only [↓o_nil, ↓o_field, ↓o_add, ↓o_sub, ↓o_mul, ↓o_lss, ↓o_leq, ↓o_gtr, ↓o_geq, ↓o_not, ↓o_pick, ↓o_eqInt, ↓o_neInt, ↓o_eqBool, ↓o_neBool, ↓o_eqPtr, ↓o_nePtr, ↓o_eqPtr', ↓o_eqSl, ↓o_neSl, ↓o_eqStr, ↓o_neStr, ↓o_len, ↓o_lenS, ↓o_min, ↓o_max, ↓o_extract, ↓o_convInt, ↓cd_true, ↓cd_false, ↓gate_tt, ↓gate_ff, ↓gate_tf, ↓gate_ft, ↓gate_undef, ↓o_bind, ↓stay_v, ↓pop_cons, ↓fin_nil, Option.isNone_none, Option.isNone_some, Bool.not_true, Bool.not_false, Nat.zero_add, decide_true, decide_false, if_true, if_false, Bool.false_eq_true, ↓reduceIte]
  refine ld_in (b := p) (v := .int .i64 s.an) h (ic_an ok) ?_
  rw [o_gtr]
  by_cases h1 : s.an < n
  · have e : pruneS s n = (s, 0, 2) := by unfold pruneS; rw [if_pos (.inl h1)]
    rw [e] at k
    simp only [h1, ↓o_nil, ↓o_field, ↓o_add, ↓o_sub, ↓o_mul, ↓o_lss, ↓o_leq, ↓o_gtr, ↓o_geq, ↓o_not, ↓o_pick, ↓o_eqInt, ↓o_neInt, ↓o_eqBool, ↓o_neBool, ↓o_eqPtr, ↓o_nePtr, ↓o_eqPtr', ↓o_eqSl, ↓o_neSl, ↓o_eqStr, ↓o_neStr, ↓o_len, ↓o_lenS, ↓o_min, ↓o_max, ↓o_extract, ↓o_convInt, ↓cd_true, ↓cd_false, ↓gate_tt, ↓gate_ff, ↓gate_tf, ↓gate_ft, ↓gate_undef, ↓o_bind, ↓stay_v, ↓pop_cons, ↓fin_nil, Option.isNone_none, Option.isNone_some, Bool.not_true, Bool.not_false, Nat.zero_add, decide_true, decide_false, if_true, if_false, Bool.false_eq_true, ↓reduceIte]
    exact k _ _ h.drop.drop
  simp only [h1, ↓o_nil, ↓o_field, ↓o_add, ↓o_sub, ↓o_mul, ↓o_lss, ↓o_leq, ↓o_gtr, ↓o_geq, ↓o_not, ↓o_pick, ↓o_eqInt, ↓o_neInt, ↓o_eqBool, ↓o_neBool, ↓o_eqPtr, ↓o_nePtr, ↓o_eqPtr', ↓o_eqSl, ↓o_neSl, ↓o_eqStr, ↓o_neStr, ↓o_len, ↓o_lenS, ↓o_min, ↓o_max, ↓o_extract, ↓o_convInt, ↓cd_true, ↓cd_false, ↓gate_tt, ↓gate_ff, ↓gate_tf, ↓gate_ft, ↓gate_undef, ↓o_bind, ↓stay_v, ↓pop_cons, ↓fin_nil, Option.isNone_none, Option.isNone_some, Bool.not_true, Bool.not_false, Nat.zero_add, decide_true, decide_false, if_true, if_false, Bool.false_eq_true, ↓reduceIte]
  refine ld_in (b := nb) (v := .int .i64 n) h rfl ?_
  try simp only [↓o_nil, ↓o_field, ↓o_add, ↓o_sub, ↓o_mul, ↓o_lss, ↓o_leq, ↓o_gtr, ↓o_geq, ↓o_not, ↓o_pick, ↓o_eqInt, ↓o_neInt, ↓o_eqBool, ↓o_neBool, ↓o_eqPtr, ↓o_nePtr, ↓o_eqPtr', ↓o_eqSl, ↓o_neSl, ↓o_eqStr, ↓o_neStr, ↓o_len, ↓o_lenS, ↓o_min, ↓o_max, ↓o_extract, ↓o_convInt, ↓cd_true, ↓cd_false, ↓gate_tt, ↓gate_ff, ↓gate_tf, ↓gate_ft, ↓gate_undef, ↓o_bind, ↓stay_v, ↓pop_cons, ↓fin_nil, Option.isNone_none, Option.isNone_some, Bool.not_true, Bool.not_false, Nat.zero_add, decide_true, decide_false, if_true, if_false, Bool.false_eq_true, ↓reduceIte]
  refine ld_in (b := cb) (v := .pointer (some ⟨p, 0, none⟩)) h rfl ?_
  try simp only [↓o_nil, ↓o_field, ↓o_add, ↓o_sub, ↓o_mul, ↓o_lss, ↓o_leq, ↓o_gtr, ↓o_geq, ↓o_not, ↓o_pick, ↓o_eqInt, ↓o_neInt, ↓o_eqBool, ↓o_neBool, ↓o_eqPtr, ↓o_nePtr, ↓o_eqPtr', ↓o_eqSl, ↓o_neSl, ↓o_eqStr, ↓o_neStr, ↓o_len, ↓o_lenS, ↓o_min, ↓o_max, ↓o_extract, ↓o_convInt, ↓cd_true, ↓cd_false, ↓gate_tt, ↓gate_ff, ↓gate_tf, ↓gate_ft, ↓gate_undef, ↓o_bind, ↓stay_v, ↓pop_cons, ↓fin_nil, Option.isNone_none, Option.isNone_some, Bool.not_true, Bool.not_false, Nat.zero_add, decide_true, decide_false, if_true, if_false, Bool.false_eq_true, ↓reduceIte]
  refine ld_in (b := p) (v := .int .i64 s.bn) h ic_bn ?_
  try simp only [↓o_nil, ↓o_field, ↓o_add, ↓o_sub, ↓o_mul, ↓o_lss, ↓o_leq, ↓o_gtr, ↓o_geq, ↓o_not, ↓o_pick, ↓o_eqInt, ↓o_neInt, ↓o_eqBool, ↓o_neBool, ↓o_eqPtr, ↓o_nePtr, ↓o_eqPtr', ↓o_eqSl, ↓o_neSl, ↓o_eqStr, ↓o_neStr, ↓o_len, ↓o_lenS, ↓o_min, ↓o_max, ↓o_extract, ↓o_convInt, ↓cd_true, ↓cd_false, ↓gate_tt, ↓gate_ff, ↓gate_tf, ↓gate_ft, ↓gate_undef, ↓o_bind, ↓stay_v, ↓pop_cons, ↓fin_nil, Option.isNone_none, Option.isNone_some, Bool.not_true, Bool.not_false, Nat.zero_add, decide_true, decide_false, if_true, if_false, Bool.false_eq_true, ↓reduceIte]
  by_cases h2 : n < s.bn
  · have e : pruneS s n = (s, 0, 2) := by unfold pruneS; rw [if_pos (.inr h2)]
    rw [e] at k
    simp only [h2, ↓o_nil, ↓o_field, ↓o_add, ↓o_sub, ↓o_mul, ↓o_lss, ↓o_leq, ↓o_gtr, ↓o_geq, ↓o_not, ↓o_pick, ↓o_eqInt, ↓o_neInt, ↓o_eqBool, ↓o_neBool, ↓o_eqPtr, ↓o_nePtr, ↓o_eqPtr', ↓o_eqSl, ↓o_neSl, ↓o_eqStr, ↓o_neStr, ↓o_len, ↓o_lenS, ↓o_min, ↓o_max, ↓o_extract, ↓o_convInt, ↓cd_true, ↓cd_false, ↓gate_tt, ↓gate_ff, ↓gate_tf, ↓gate_ft, ↓gate_undef, ↓o_bind, ↓stay_v, ↓pop_cons, ↓fin_nil, Option.isNone_none, Option.isNone_some, Bool.not_true, Bool.not_false, Nat.zero_add, decide_true, decide_false, if_true, if_false, Bool.false_eq_true, ↓reduceIte]
    exact k _ _ h.drop.drop
  simp only [h2, ↓o_nil, ↓o_field, ↓o_add, ↓o_sub, ↓o_mul, ↓o_lss, ↓o_leq, ↓o_gtr, ↓o_geq, ↓o_not, ↓o_pick, ↓o_eqInt, ↓o_neInt, ↓o_eqBool, ↓o_neBool, ↓o_eqPtr, ↓o_nePtr, ↓o_eqPtr', ↓o_eqSl, ↓o_neSl, ↓o_eqStr, ↓o_neStr, ↓o_len, ↓o_lenS, ↓o_min, ↓o_max, ↓o_extract, ↓o_convInt, ↓cd_true, ↓cd_false, ↓gate_tt, ↓gate_ff, ↓gate_tf, ↓gate_ft, ↓gate_undef, ↓o_bind, ↓stay_v, ↓pop_cons, ↓fin_nil, Option.isNone_none, Option.isNone_some, Bool.not_true, Bool.not_false, Nat.zero_add, decide_true, decide_false, if_true, if_false, Bool.false_eq_true, ↓reduceIte]
  obtain ⟨kk, hkk⟩ : ∃ kk : Nat, n = s.bn + kk := ⟨(n - s.bn).toNat, by omega⟩
  have e : pruneS s n = ({ s with bn := n, bh := links s.bh (s.l.take kk), l := s.l.drop kk }, (kk : Int), 0) := by
    unfold pruneS; rw [if_neg (by omega), show (n - s.bn).toNat = kk by omega, show n - s.bn = (kk : Int) by omega]
  rw [e] at k
  refine dr_sl h fun w h _ => ?_
  try simp only [↓o_nil, ↓o_field, ↓o_add, ↓o_sub, ↓o_mul, ↓o_lss, ↓o_leq, ↓o_gtr, ↓o_geq, ↓o_not, ↓o_pick, ↓o_eqInt, ↓o_neInt, ↓o_eqBool, ↓o_neBool, ↓o_eqPtr, ↓o_nePtr, ↓o_eqPtr', ↓o_eqSl, ↓o_neSl, ↓o_eqStr, ↓o_neStr, ↓o_len, ↓o_lenS, ↓o_min, ↓o_max, ↓o_extract, ↓o_convInt, ↓cd_true, ↓cd_false, ↓gate_tt, ↓gate_ff, ↓gate_tf, ↓gate_ft, ↓gate_undef, ↓o_bind, ↓stay_v, ↓pop_cons, ↓fin_nil, Option.isNone_none, Option.isNone_some, Bool.not_true, Bool.not_false, Nat.zero_add, decide_true, decide_false, if_true, if_false, Bool.false_eq_true, ↓reduceIte]
  refine ld_in (b := nb) (v := .int .i64 n) h rfl ?_
  refine ld_in (b := cb) (v := .pointer (some ⟨p, 0, none⟩)) h rfl ?_
  try simp only [↓o_nil, ↓o_field, ↓o_add, ↓o_sub, ↓o_mul, ↓o_lss, ↓o_leq, ↓o_gtr, ↓o_geq, ↓o_not, ↓o_pick, ↓o_eqInt, ↓o_neInt, ↓o_eqBool, ↓o_neBool, ↓o_eqPtr, ↓o_nePtr, ↓o_eqPtr', ↓o_eqSl, ↓o_neSl, ↓o_eqStr, ↓o_neStr, ↓o_len, ↓o_lenS, ↓o_min, ↓o_max, ↓o_extract, ↓o_convInt, ↓cd_true, ↓cd_false, ↓gate_tt, ↓gate_ff, ↓gate_tf, ↓gate_ft, ↓gate_undef, ↓o_bind, ↓stay_v, ↓pop_cons, ↓fin_nil, Option.isNone_none, Option.isNone_some, Bool.not_true, Bool.not_false, Nat.zero_add, decide_true, decide_false, if_true, if_false, Bool.false_eq_true, ↓reduceIte]
  refine ld_in (b := p) (v := .int .i64 s.bn) h ic_bn ?_
  rw [o_sub, i64_of (by omega) (by omega), show n - s.bn = (kk : Int) by omega]
  refine ld_in (b := cb) (v := .pointer (some ⟨p, 0, none⟩)) h rfl ?_
  refine c32 ?_
  unfold B32
  refine box_sl h fun xb w h => ?_
  have h : sat E w (boxP xb p * (boxN nb n * (boxP cb p * chI p s v R))) := h
  refine pvv_of (v := .func (.func 47) #[] #[.pointer (some ⟨xb, 0, none⟩)]) (fun _ => rfl) ?_
  refine rng_body h Tryd.func47 (by kernel_rfl) (by kernel_rfl) fun rec D D1 w h hround => ?_
  refine Links_spec (E := E) (p := p) (v := v) (c0 := xb) ok (by omega)
    (fun i => pur (i ≤ kk) * (pts D1 (rec .ready none) * (boxN nb n * (pts D (.deferred (some [])) * (boxP xb p * (boxP cb p * chI p s v R))))))
    (pts D1 (rec .done (some (.exit 1))) * (boxN nb n * (pts D (.deferred (some [])) * (boxP xb p * (boxP cb p * chI p { s with bn := n, bh := links s.bh (s.l.take kk) } v R)))))
    (sat_pur_star.2 ⟨by omega, h.perm (by ac_rfl)⟩) ?_ ?_ ?_ ?_ ?_ ?_ ?_
  · intro i w h
    exact ((sat_pur_star.1 h).2).has
  · intro i w h
    exact ((sat_pur_star.1 h).2).has
  · intro i
    exact Rds.under (H1 := pers (immS v s.l.length (evs s.l))) Rds.pers
  · intro i
    exact hd.up
  · clear h
    intro F i hi w K' h ht hf
    rw [star_left_comm] at h
    obtain ⟨hφ, h⟩ := sat_pur_star.1 h
    refine hround [.agg (pc s i).toArray] w K' rfl h.has ?_
    simp only [↓o_nil, ↓o_field, ↓o_add, ↓o_sub, ↓o_mul, ↓o_lss, ↓o_leq, ↓o_gtr, ↓o_geq, ↓o_not, ↓o_pick, ↓o_eqInt, ↓o_neInt, ↓o_eqBool, ↓o_neBool, ↓o_eqPtr, ↓o_nePtr, ↓o_eqPtr', ↓o_eqSl, ↓o_neSl, ↓o_eqStr, ↓o_neStr, ↓o_len, ↓o_lenS, ↓o_min, ↓o_max, ↓o_extract, ↓o_convInt, ↓cd_true, ↓cd_false, ↓gate_tt, ↓gate_ff, ↓gate_tf, ↓gate_ft, ↓gate_undef, ↓o_bind, ↓stay_v, ↓pop_cons, ↓fin_nil, Option.isNone_none, Option.isNone_some, Bool.not_true, Bool.not_false, Nat.zero_add, decide_true, decide_false, if_true, if_false, Bool.false_eq_true, ↓reduceIte]
    refine alloc_sl h fun pb w h => ?_
    have h : sat E w (pts pb (.cells z57.toArray 57 (0, 0)) * (F * (pts D1 (rec .ready none) * (boxN nb n * (pts D (.deferred (some [])) * (boxP xb p * (boxP cb p * chI p s v R))))))) := h
    refine store_all (b := pb) h (xs := z57) (vs := pc s i) rfl (pc_length ok i) (pc_one s i) fun w h => ?_
    refine ⟨h.has, ?_⟩
    have h := (h.own D1).set (rec .busy none)
    try simp only [↓o_nil, ↓o_field, ↓o_add, ↓o_sub, ↓o_mul, ↓o_lss, ↓o_leq, ↓o_gtr, ↓o_geq, ↓o_not, ↓o_pick, ↓o_eqInt, ↓o_neInt, ↓o_eqBool, ↓o_neBool, ↓o_eqPtr, ↓o_nePtr, ↓o_eqPtr', ↓o_eqSl, ↓o_neSl, ↓o_eqStr, ↓o_neStr, ↓o_len, ↓o_lenS, ↓o_min, ↓o_max, ↓o_extract, ↓o_convInt, ↓cd_true, ↓cd_false, ↓gate_tt, ↓gate_ff, ↓gate_tf, ↓gate_ft, ↓gate_undef, ↓o_bind, ↓stay_v, ↓pop_cons, ↓fin_nil, Option.isNone_none, Option.isNone_some, Bool.not_true, Bool.not_false, Nat.zero_add, decide_true, decide_false, if_true, if_false, Bool.false_eq_true, ↓reduceIte]
    refine ld_in (b := pb) (v := .int .i64 (s.bn + i)) h rfl ?_
    refine ld_in (b := nb) (v := .int .i64 n) h rfl ?_
    rw [o_eqInt]
    by_cases hq : s.bn + (i : Int) = n
    · have hik : i = kk := by omega
      rw [decide_eq_true hq]
      simp only [↓o_nil, ↓o_field, ↓o_add, ↓o_sub, ↓o_mul, ↓o_lss, ↓o_leq, ↓o_gtr, ↓o_geq, ↓o_not, ↓o_pick, ↓o_eqInt, ↓o_neInt, ↓o_eqBool, ↓o_neBool, ↓o_eqPtr, ↓o_nePtr, ↓o_eqPtr', ↓o_eqSl, ↓o_neSl, ↓o_eqStr, ↓o_neStr, ↓o_len, ↓o_lenS, ↓o_min, ↓o_max, ↓o_extract, ↓o_convInt, ↓cd_true, ↓cd_false, ↓gate_tt, ↓gate_ff, ↓gate_tf, ↓gate_ft, ↓gate_undef, ↓o_bind, ↓stay_v, ↓pop_cons, ↓fin_nil, Option.isNone_none, Option.isNone_some, Bool.not_true, Bool.not_false, Nat.zero_add, decide_true, decide_false, if_true, if_false, Bool.false_eq_true, ↓reduceIte]
      refine ld_in (b := cb) (v := .pointer (some ⟨p, 0, none⟩)) h rfl ?_
      refine ld_agg (b := pb) h (pc_length ok i) ?_
      try simp only [↓o_nil, ↓o_field, ↓o_add, ↓o_sub, ↓o_mul, ↓o_lss, ↓o_leq, ↓o_gtr, ↓o_geq, ↓o_not, ↓o_pick, ↓o_eqInt, ↓o_neInt, ↓o_eqBool, ↓o_neBool, ↓o_eqPtr, ↓o_nePtr, ↓o_eqPtr', ↓o_eqSl, ↓o_neSl, ↓o_eqStr, ↓o_neStr, ↓o_len, ↓o_lenS, ↓o_min, ↓o_max, ↓o_extract, ↓o_convInt, ↓cd_true, ↓cd_false, ↓gate_tt, ↓gate_ff, ↓gate_tf, ↓gate_ft, ↓gate_undef, ↓o_bind, ↓stay_v, ↓pop_cons, ↓fin_nil, Option.isNone_none, Option.isNone_some, Bool.not_true, Bool.not_false, Nat.zero_add, decide_true, decide_false, if_true, if_false, Bool.false_eq_true, ↓reduceIte]
      have e3 : pc s i = .int .i64 n :: (links s.bh (s.l.take kk)).map bv := by unfold pc; rw [hq, hik]
      rw [e3]
      refine store_part (b := p) h (icells { s with bn := n, bh := links s.bh (s.l.take kk) } v) (by simp [links_length _ ok.b]) (by rw [← e3]; exact pc_one s i) (by rw [ic_length ok]; omega) (ip_base ok) fun w h => ?_
      refine ⟨h.has, hf _ ?_⟩
      have h := (h.own D1).set (rec .done (some (.exit 1)))
      have h := h.lose pb
      show sat E _ (F * (pts D1 (rec .done (some (.exit 1))) * (boxN nb n * (pts D (.deferred (some [])) * (boxP xb p * (boxP cb p * (pts p (.cells (icells { s with bn := n, bh := links s.bh (s.l.take kk) } v).toArray 59 (0, 0)) * (pers (immS v s.l.length (evs s.l)) * R))))))))
      exact h.perm (by ac_rfl)
    · rw [decide_eq_false hq]
      simp only [↓o_nil, ↓o_field, ↓o_add, ↓o_sub, ↓o_mul, ↓o_lss, ↓o_leq, ↓o_gtr, ↓o_geq, ↓o_not, ↓o_pick, ↓o_eqInt, ↓o_neInt, ↓o_eqBool, ↓o_neBool, ↓o_eqPtr, ↓o_nePtr, ↓o_eqPtr', ↓o_eqSl, ↓o_neSl, ↓o_eqStr, ↓o_neStr, ↓o_len, ↓o_lenS, ↓o_min, ↓o_max, ↓o_extract, ↓o_convInt, ↓cd_true, ↓cd_false, ↓gate_tt, ↓gate_ff, ↓gate_tf, ↓gate_ft, ↓gate_undef, ↓o_bind, ↓stay_v, ↓pop_cons, ↓fin_nil, Option.isNone_none, Option.isNone_some, Bool.not_true, Bool.not_false, Nat.zero_add, decide_true, decide_false, if_true, if_false, Bool.false_eq_true, ↓reduceIte]
      refine ⟨h.has, ht _ ?_⟩
      have h := (h.own D1).set (rec .ready none)
      have h := h.lose pb
      rw [star_left_comm]
      exact sat_pur_star.2 ⟨by omega, h.perm (by ac_rfl)⟩
  · intro w h
    obtain ⟨hφ, h⟩ := sat_pur_star.1 h
    omega
  · intro w h
    refine ⟨.done, some (.exit 1), h.has, by simp, ?_⟩
    have h := (h.own D1).set (rec .exhausted (some (.exit 1)))
    simp only [jump, jump.jumpX]
    have h := ((h.lose D1).lose nb).lose xb
    have ok2 : Ok { s with bn := n, bh := links s.bh (s.l.take kk) } (m + s.l.length) := ⟨links_length _ ok.b, ok.a, ok.h, by simp only; omega, ok.a0, by simp only; omega, by simp only; omega, ok.few⟩
    exact prune_end (kk := kk) ok2 (by simp only; omega) h fun v' w h => k v' w h
end Go.Proofs.YtjeiojibnmfibaaDoor

/-
  What must be whatever is asked of a chain.
-/
set_option linter.all false
set_option maxRecDepth 10000
namespace Go.Proofs.YtjeiojibnmfibaaDoor
open Go Hold
variable {E : World0} {w : World} {H R X : HP} {K : Value → World → Prop}
def lg : List UInt8 := [108, 111, 103, 105, 110]
def tu : List UInt8 := [116, 47, 117]
def tk : List UInt8 := [116, 105, 99, 107]
def x1 : Evt := ⟨1, 5, lg, tu⟩
def y1 : Evt := ⟨2, 6, tk, []⟩
def h1 : List UInt8 := nx zeros32 x1
def h2 : List UInt8 := nx h1 y1
theorem numT_small {n : Nat} (h : n < 16) (h0 : n ≠ 0) : numT (n : Int) = [98, dig n] := by
  unfold numT number
  rw [if_neg (by omega)]
  show numText (n : Int).toNat = _
  rw [Int.toNat_natCast]
  unfold numText
  rw [hexs_small h h0]; rfl
theorem row_x1 : rowE x1 = [4, 2, 98, 49, 2, 98, 53, 5, 108, 111, 103, 105, 110, 3, 116, 47, 117] := by
  unfold rowE colsE
  rw [show x1.n = ((1 : Nat) : Int) from rfl, show x1.t = ((5 : Nat) : Int) from rfl, numT_small (by decide) (by decide), numT_small (by decide) (by decide)]
  decide
theorem h1_ne : (h1 == zeros32) = false := by
  have e : sha (zeros32 ++ [4, 2, 98, 49, 2, 98, 53, 5, 108, 111, 103, 105, 110, 3, 116, 47, 117]) ≠ zeros32 := by decide +kernel
  have e2 : h1 = sha (zeros32 ++ [4, 2, 98, 49, 2, 98, 53, 5, 108, 111, 103, 105, 110, 3, 116, 47, 117]) := by unfold h1 nx; rw [row_x1]
  rw [e2]
  simpa using e
def q1 : Ch := ⟨0, zeros32, 0, zeros32, h1, 5, [x1]⟩
def q2 : Ch := ⟨0, zeros32, 1, h1, h1, 5, [x1]⟩
def q3 : Ch := ⟨1, h1, 1, h1, h1, 5, []⟩
def q4 : Ch := ⟨1, h1, 1, h1, h2, 6, [y1]⟩
theorem add1 : addS newS 5 lg tu = (q1, x1, 0) := rfl
theorem anc1 : anchorS q1 = q2 := rfl
theorem pru1 : pruneS q2 1 = (q3, 1, 0) := rfl
theorem add2 : addS q3 6 tk [] = (q4, y1, 0) := rfl
theorem ver1 : verifyS q4 = 0 := by
  unfold verifyS
  rw [if_neg]
  rintro (h | h)
  · exact h.2 rfl
  · exact h rfl
theorem chI_in {p : Nat} {s : Ch} {v : Value} (h : sat E w (X * chI p s v R)) : sat E w (chI p s v (X * R)) := by
  unfold chI at h ⊢
  exact h.perm (by ac_rfl)
theorem hash_in (h : sat E w H) {l : List UInt8} (hl : l.length = 32) {K : Value → World → Prop} (k : ∀ b w', sat E w' (pts b (.cells (l.map bv).toArray 36 (0, 0)) * H) → K (.pointer (some ⟨b, 0, none⟩)) w') :
    efv prog (Instr.alloc 36 true (.tuple #[])) w fun x w => efu prog (Instr.storeAt 36 x (.agg (l.map bv).toArray)) w fun _ w => K x w := hash_var h hl k
theorem evt_in (h : sat E w H) {x : Evt} {K : Value → World → Prop} (k : ∀ b w', sat E w' (pts b (.cells (ecells x).toArray 34 (0, 0)) * H) → K (.pointer (some ⟨b, 0, none⟩)) w') :
    efv prog (Instr.alloc 34 true (.tuple #[])) w fun x' w => efu prog (Instr.storeAt 34 x' (ev x)) w fun _ w => K x' w := by
  refine alloc_sl h fun b w h => ?_
  have h : sat E w (pts b (.cells (ecells zeroE).toArray 34 (0, 0)) * H) := h
  exact store_all (b := b) h (xs := ecells zeroE) (vs := ecells x) rfl rfl (ecells_one x) fun w h => k b w h
theorem live_spec (h : sat E w H) (hd : Dbt H) (k : ∀ w', sat E w' H → K (.bool true) w') : Calls prog 11 #[] w (Ret K) := by
  have t0 : ∀ n : Int, decide (n = n) = true := fun n => decide_eq_true rfl
  have t1 : decide (q2.an = 1) = true := rfl
  refine c11 ?_
  unfold B11
  refine New_spec h fun p w h => ?_
  simp only [↓o_eqPtr, Option.isNone_some, ↓cd_false]
  refine Add_spec (a := lg) (b := tu) ok_new (by omega) hd h fun v w h => ?_
  rw [add1] at h ⊢
  rw [o_extract, o_extract]
  refine evt_in h fun xb w h => ?_
  have o1 : Ok q1 1 := ok_add (t := 5) (a := lg) (b := tu) ok_new
  refine Anchor_spec o1 (by omega) (chI_in h) fun w h => ?_
  rw [anc1] at h ⊢
  have o2 : Ok q2 1 := ok_anchor o1
  rw [o_extract, o_extract]
  refine hash_in h o2.a fun hb w h => ?_
  refine Prune_spec o2 (by omega) hd.up (chI_in h) fun v w h => ?_
  rw [pru1] at h ⊢
  have o3 : Ok q3 1 := ok_prune (n := 1) o2
  rw [o_extract, o_extract]
  refine Add_spec (a := tk) (b := []) o3 (by omega) hd.up h fun v w h => ?_
  rw [add2] at h ⊢
  have o4 : Ok q4 2 := ok_add (t := 6) (a := tk) (b := []) o3
  rw [o_extract, o_extract]
  refine evt_in h fun yb w h => ?_
  try simp only [t0, t1, ↓o_nil, ↓o_field, ↓o_add, ↓o_sub, ↓o_mul, ↓o_lss, ↓o_leq, ↓o_gtr, ↓o_geq, ↓o_not, ↓o_pick, ↓o_eqInt, ↓o_neInt, ↓o_eqBool, ↓o_neBool, ↓o_eqPtr, ↓o_nePtr, ↓o_eqPtr', ↓o_eqSl, ↓o_neSl, ↓o_eqStr, ↓o_neStr, ↓o_len, ↓o_lenS, ↓o_min, ↓o_max, ↓o_extract, ↓o_convInt, ↓cd_true, ↓cd_false, ↓gate_tt, ↓gate_ff, ↓gate_tf, ↓gate_ft, ↓gate_undef, ↓o_bind, ↓stay_v, ↓pop_cons, ↓fin_nil, Option.isNone_none, Option.isNone_some, Bool.not_true, Bool.not_false, Nat.zero_add, decide_true, decide_false, if_true, if_false, Bool.false_eq_true, ↓reduceIte]
  refine ld_in (b := xb) (v := .int .i64 1) h rfl ?_
  try simp only [t0, t1, ↓o_nil, ↓o_field, ↓o_add, ↓o_sub, ↓o_mul, ↓o_lss, ↓o_leq, ↓o_gtr, ↓o_geq, ↓o_not, ↓o_pick, ↓o_eqInt, ↓o_neInt, ↓o_eqBool, ↓o_neBool, ↓o_eqPtr, ↓o_nePtr, ↓o_eqPtr', ↓o_eqSl, ↓o_neSl, ↓o_eqStr, ↓o_neStr, ↓o_len, ↓o_lenS, ↓o_min, ↓o_max, ↓o_extract, ↓o_convInt, ↓cd_true, ↓cd_false, ↓gate_tt, ↓gate_ff, ↓gate_tf, ↓gate_ft, ↓gate_undef, ↓o_bind, ↓stay_v, ↓pop_cons, ↓fin_nil, Option.isNone_none, Option.isNone_some, Bool.not_true, Bool.not_false, Nat.zero_add, decide_true, decide_false, if_true, if_false, Bool.false_eq_true, ↓reduceIte]
  refine ld_agg (b := hb) h (by simpa using o2.a) ?_
  try simp only [t0, t1, ↓o_nil, ↓o_field, ↓o_add, ↓o_sub, ↓o_mul, ↓o_lss, ↓o_leq, ↓o_gtr, ↓o_geq, ↓o_not, ↓o_pick, ↓o_eqInt, ↓o_neInt, ↓o_eqBool, ↓o_neBool, ↓o_eqPtr, ↓o_nePtr, ↓o_eqPtr', ↓o_eqSl, ↓o_neSl, ↓o_eqStr, ↓o_neStr, ↓o_len, ↓o_lenS, ↓o_min, ↓o_max, ↓o_extract, ↓o_convInt, ↓cd_true, ↓cd_false, ↓gate_tt, ↓gate_ff, ↓gate_tf, ↓gate_ft, ↓gate_undef, ↓o_bind, ↓stay_v, ↓pop_cons, ↓fin_nil, Option.isNone_none, Option.isNone_some, Bool.not_true, Bool.not_false, Nat.zero_add, decide_true, decide_false, if_true, if_false, Bool.false_eq_true, ↓reduceIte]
  refine zeroH_build ?_
  try simp only [t0, t1, ↓o_nil, ↓o_field, ↓o_add, ↓o_sub, ↓o_mul, ↓o_lss, ↓o_leq, ↓o_gtr, ↓o_geq, ↓o_not, ↓o_pick, ↓o_eqInt, ↓o_neInt, ↓o_eqBool, ↓o_neBool, ↓o_eqPtr, ↓o_nePtr, ↓o_eqPtr', ↓o_eqSl, ↓o_neSl, ↓o_eqStr, ↓o_neStr, ↓o_len, ↓o_lenS, ↓o_min, ↓o_max, ↓o_extract, ↓o_convInt, ↓cd_true, ↓cd_false, ↓gate_tt, ↓gate_ff, ↓gate_tf, ↓gate_ft, ↓gate_undef, ↓o_bind, ↓stay_v, ↓pop_cons, ↓fin_nil, Option.isNone_none, Option.isNone_some, Bool.not_true, Bool.not_false, Nat.zero_add, decide_true, decide_false, if_true, if_false, Bool.false_eq_true, ↓reduceIte]
  rw [neq36 (show q2.ah.length = 32 from o2.a) (show zeros32.length = 32 from rfl), show (q2.ah == zeros32) = false from h1_ne]
  try simp only [t0, t1, ↓o_nil, ↓o_field, ↓o_add, ↓o_sub, ↓o_mul, ↓o_lss, ↓o_leq, ↓o_gtr, ↓o_geq, ↓o_not, ↓o_pick, ↓o_eqInt, ↓o_neInt, ↓o_eqBool, ↓o_neBool, ↓o_eqPtr, ↓o_nePtr, ↓o_eqPtr', ↓o_eqSl, ↓o_neSl, ↓o_eqStr, ↓o_neStr, ↓o_len, ↓o_lenS, ↓o_min, ↓o_max, ↓o_extract, ↓o_convInt, ↓cd_true, ↓cd_false, ↓gate_tt, ↓gate_ff, ↓gate_tf, ↓gate_ft, ↓gate_undef, ↓o_bind, ↓stay_v, ↓pop_cons, ↓fin_nil, Option.isNone_none, Option.isNone_some, Bool.not_true, Bool.not_false, Nat.zero_add, decide_true, decide_false, if_true, if_false, Bool.false_eq_true, ↓reduceIte]
  refine ld_in (b := yb) (v := .int .i64 2) h rfl ?_
  try simp only [t0, t1, ↓o_nil, ↓o_field, ↓o_add, ↓o_sub, ↓o_mul, ↓o_lss, ↓o_leq, ↓o_gtr, ↓o_geq, ↓o_not, ↓o_pick, ↓o_eqInt, ↓o_neInt, ↓o_eqBool, ↓o_neBool, ↓o_eqPtr, ↓o_nePtr, ↓o_eqPtr', ↓o_eqSl, ↓o_neSl, ↓o_eqStr, ↓o_neStr, ↓o_len, ↓o_lenS, ↓o_min, ↓o_max, ↓o_extract, ↓o_convInt, ↓cd_true, ↓cd_false, ↓gate_tt, ↓gate_ff, ↓gate_tf, ↓gate_ft, ↓gate_undef, ↓o_bind, ↓stay_v, ↓pop_cons, ↓fin_nil, Option.isNone_none, Option.isNone_some, Bool.not_true, Bool.not_false, Nat.zero_add, decide_true, decide_false, if_true, if_false, Bool.false_eq_true, ↓reduceIte]
  refine Verify_spec o4 (by omega) hd.up (chI_in h) fun w h => ?_
  rw [ver1]
  try simp only [t0, t1, ↓o_nil, ↓o_field, ↓o_add, ↓o_sub, ↓o_mul, ↓o_lss, ↓o_leq, ↓o_gtr, ↓o_geq, ↓o_not, ↓o_pick, ↓o_eqInt, ↓o_neInt, ↓o_eqBool, ↓o_neBool, ↓o_eqPtr, ↓o_nePtr, ↓o_eqPtr', ↓o_eqSl, ↓o_neSl, ↓o_eqStr, ↓o_neStr, ↓o_len, ↓o_lenS, ↓o_min, ↓o_max, ↓o_extract, ↓o_convInt, ↓cd_true, ↓cd_false, ↓gate_tt, ↓gate_ff, ↓gate_tf, ↓gate_ft, ↓gate_undef, ↓o_bind, ↓stay_v, ↓pop_cons, ↓fin_nil, Option.isNone_none, Option.isNone_some, Bool.not_true, Bool.not_false, Nat.zero_add, decide_true, decide_false, if_true, if_false, Bool.false_eq_true, ↓reduceIte]
  have h := ((h.lose yb).lose hb).lose xb
  unfold chI at h
  exact k _ h.drop.drop
end Go.Proofs.YtjeiojibnmfibaaDoor
