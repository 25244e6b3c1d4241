/-
  Deeds on a cache; caches over new disks; what must be whatever is asked.
-/
import Derived.Test.YtcjklbhobmkalaaGreatPgrG
import Derived.Test.YtcjklbhobmkalaaGreatPgrQ
import Derived.Test.YtcjklbhobmkalaaGreatOpens
import Derived.Test.YtcjklbhobmkalaaGreatElems
import Derived.Lib.SmallJoins
import Derived.Test.YtcjklbhobmkalaaGreatWalT
set_option linter.all false
set_option maxRecDepth 100000
namespace Go.Proofs.YtcjklbhobmkalaaGreat
open Go Hold
variable {E : World0} {w : World} {H R X : HP} {K : Value → World → Prop}
structure Dd where
  kind : Int
  v : Value
  ns : List Int
  x : UInt8
  sh : Bool
def dcells (x : Dd) : List Value := [.int .i64 x.kind, x.v, bv x.x, .bool x.sh]
structure OkD (H : HP) (x : Dd) : Prop where
  rd : Rds H x.v x.ns.length (x.ns.map iv)
  len : x.ns.length ≤ 9223372036854775807
def Dd.first (x : Dd) : Int := x.ns.headD 0
def Dd.row (x : Dd) : Bs := List.replicate (if x.sh = true then 255 else 256) x.x
theorem Dd.row_len (x : Dd) : x.row.length ≤ 256 := by unfold Dd.row; rw [List.length_replicate]; split <;> omega
theorem first_spec (h : sat E w H) (x : Dd) (ok : OkD H x) (k : ∀ w', sat E w' H → K (.int .i64 x.first) w') : Calls prog 13 #[.agg (dcells x).toArray] w (Ret K) := by
  obtain ⟨a, c, hxv, hc, hrd, _⟩ := ok.rd.shape h
  refine c13 ?_
  unfold B13
  refine box_sl h fun q w h => ?_
  have h : sat E w (pts q (.cells [Value.int .i64 x.kind, x.v, bv x.x, .bool x.sh].toArray 24 (0, 0)) * H) := h
  simp only [↓o_nil, ↓o_field, ↓o_add, ↓o_sub, ↓o_mul, ↓o_lss, ↓o_leq, ↓o_gtr, ↓o_geq, ↓o_not, ↓o_pick, ↓o_eqInt, ↓o_neInt, ↓o_eqBool, ↓o_neBool, ↓o_eqPtr, ↓o_nePtr, ↓o_eqPtr', ↓o_eqSl, ↓o_neSl, ↓o_eqStr, ↓o_neStr, ↓o_len, ↓o_lenS, ↓o_min, ↓o_max, ↓o_extract, ↓o_convInt, ↓cd_true, ↓cd_false, ↓gate_tt, ↓gate_ff, ↓gate_tf, ↓gate_ft, ↓gate_undef, ↓o_bind, ↓stay_v, ↓pop_cons, ↓fin_nil, Option.isNone_none, Option.isNone_some, Bool.not_true, Bool.not_false, Nat.zero_add, decide_true, decide_false, if_true, if_false, Bool.false_eq_true, ↓reduceIte]
  refine ld_at h ?_
  rw [hxv]
  simp only [↓o_nil, ↓o_field, ↓o_add, ↓o_sub, ↓o_mul, ↓o_lss, ↓o_leq, ↓o_gtr, ↓o_geq, ↓o_not, ↓o_pick, ↓o_eqInt, ↓o_neInt, ↓o_eqBool, ↓o_neBool, ↓o_eqPtr, ↓o_nePtr, ↓o_eqPtr', ↓o_eqSl, ↓o_neSl, ↓o_eqStr, ↓o_neStr, ↓o_len, ↓o_lenS, ↓o_min, ↓o_max, ↓o_extract, ↓o_convInt, ↓cd_true, ↓cd_false, ↓gate_tt, ↓gate_ff, ↓gate_tf, ↓gate_ft, ↓gate_undef, ↓o_bind, ↓stay_v, ↓pop_cons, ↓fin_nil, Option.isNone_none, Option.isNone_some, Bool.not_true, Bool.not_false, Nat.zero_add, decide_true, decide_false, if_true, if_false, Bool.false_eq_true, ↓reduceIte]
  cases hns : x.ns with
  | nil =>
    simp only [List.length_nil, Int.natCast_zero, ↓o_nil, ↓o_field, ↓o_add, ↓o_sub, ↓o_mul, ↓o_lss, ↓o_leq, ↓o_gtr, ↓o_geq, ↓o_not, ↓o_pick, ↓o_eqInt, ↓o_neInt, ↓o_eqBool, ↓o_neBool, ↓o_eqPtr, ↓o_nePtr, ↓o_eqPtr', ↓o_eqSl, ↓o_neSl, ↓o_eqStr, ↓o_neStr, ↓o_len, ↓o_lenS, ↓o_min, ↓o_max, ↓o_extract, ↓o_convInt, ↓cd_true, ↓cd_false, ↓gate_tt, ↓gate_ff, ↓gate_tf, ↓gate_ft, ↓gate_undef, ↓o_bind, ↓stay_v, ↓pop_cons, ↓fin_nil, Option.isNone_none, Option.isNone_some, Bool.not_true, Bool.not_false, Nat.zero_add, decide_true, decide_false, if_true, if_false, Bool.false_eq_true, ↓reduceIte]
    have := k w h.drop
    unfold Dd.first at this
    rw [hns] at this
    exact this
  | cons y r =>
    have hne : ¬ (((y :: r).length : Nat) : Int) = 0 := by simp only [List.length_cons]; omega
    simp only [hne, ↓o_nil, ↓o_field, ↓o_add, ↓o_sub, ↓o_mul, ↓o_lss, ↓o_leq, ↓o_gtr, ↓o_geq, ↓o_not, ↓o_pick, ↓o_eqInt, ↓o_neInt, ↓o_eqBool, ↓o_neBool, ↓o_eqPtr, ↓o_nePtr, ↓o_eqPtr', ↓o_eqSl, ↓o_neSl, ↓o_eqStr, ↓o_neStr, ↓o_len, ↓o_lenS, ↓o_min, ↓o_max, ↓o_extract, ↓o_convInt, ↓cd_true, ↓cd_false, ↓gate_tt, ↓gate_ff, ↓gate_tf, ↓gate_ft, ↓gate_undef, ↓o_bind, ↓stay_v, ↓pop_cons, ↓fin_nil, Option.isNone_none, Option.isNone_some, Bool.not_true, Bool.not_false, Nat.zero_add, decide_true, decide_false, if_true, if_false, Bool.false_eq_true, ↓reduceIte]
    refine ld_at h ?_
    rw [hxv, hns]
    rw [hns] at hrd
    obtain ⟨b1, o1, rfl, hb1⟩ := win_cell (hrd.win h.drop) (j := 0) (by simp)
    rw [o_index (by omega) (by simp only [List.length_cons]; omega)]
    simp only [Int.toNat_zero, Nat.zero_mul, Nat.add_zero] at hb1 ⊢
    refine ld_cell hb1 ?_
    have := k w h.drop
    unfold Dd.first at this
    rw [hns] at this
    exact this
theorem bytes_spec (h : sat E w H) (x : Dd) (k : ∀ v w', sat E w' (osl 5 1 v x.row.length (x.row.map bv) * H) → K v w') : Calls prog 11 #[.agg (dcells x).toArray] w (Ret K) := by
  refine c11 ?_
  unfold B11
  refine box_sl h fun q w h => ?_
  have h : sat E w (pts q (.cells [Value.int .i64 x.kind, x.v, bv x.x, .bool x.sh].toArray 24 (0, 0)) * H) := h
  refine jn_cut (fun σ w => σ = [.int .i64 (x.row.length : Nat)] ∧ sat E w (pts q (.cells [Value.int .i64 x.kind, x.v, bv x.x, .bool x.sh].toArray 24 (0, 0)) * H)) ?_ ?_
  · intro kk hk
    simp only [↓o_nil, ↓o_field, ↓o_add, ↓o_sub, ↓o_mul, ↓o_lss, ↓o_leq, ↓o_gtr, ↓o_geq, ↓o_not, ↓o_pick, ↓o_eqInt, ↓o_neInt, ↓o_eqBool, ↓o_neBool, ↓o_eqPtr, ↓o_nePtr, ↓o_eqPtr', ↓o_eqSl, ↓o_neSl, ↓o_eqStr, ↓o_neStr, ↓o_len, ↓o_lenS, ↓o_min, ↓o_max, ↓o_extract, ↓o_convInt, ↓cd_true, ↓cd_false, ↓gate_tt, ↓gate_ff, ↓gate_tf, ↓gate_ft, ↓gate_undef, ↓o_bind, ↓stay_v, ↓pop_cons, ↓fin_nil, Option.isNone_none, Option.isNone_some, Bool.not_true, Bool.not_false, Nat.zero_add, decide_true, decide_false, if_true, if_false, Bool.false_eq_true, ↓reduceIte]
    refine ld_at h ?_
    cases hs : x.sh with
    | true =>
      simp only [↓o_nil, ↓o_field, ↓o_add, ↓o_sub, ↓o_mul, ↓o_lss, ↓o_leq, ↓o_gtr, ↓o_geq, ↓o_not, ↓o_pick, ↓o_eqInt, ↓o_neInt, ↓o_eqBool, ↓o_neBool, ↓o_eqPtr, ↓o_nePtr, ↓o_eqPtr', ↓o_eqSl, ↓o_neSl, ↓o_eqStr, ↓o_neStr, ↓o_len, ↓o_lenS, ↓o_min, ↓o_max, ↓o_extract, ↓o_convInt, ↓cd_true, ↓cd_false, ↓gate_tt, ↓gate_ff, ↓gate_tf, ↓gate_ft, ↓gate_undef, ↓o_bind, ↓stay_v, ↓pop_cons, ↓fin_nil, Option.isNone_none, Option.isNone_some, Bool.not_true, Bool.not_false, Nat.zero_add, decide_true, decide_false, if_true, if_false, Bool.false_eq_true, ↓reduceIte]
      refine hk _ w ⟨?_, h⟩
      unfold Dd.row; rw [hs, List.length_replicate]; rfl
    | false =>
      simp only [↓o_nil, ↓o_field, ↓o_add, ↓o_sub, ↓o_mul, ↓o_lss, ↓o_leq, ↓o_gtr, ↓o_geq, ↓o_not, ↓o_pick, ↓o_eqInt, ↓o_neInt, ↓o_eqBool, ↓o_neBool, ↓o_eqPtr, ↓o_nePtr, ↓o_eqPtr', ↓o_eqSl, ↓o_neSl, ↓o_eqStr, ↓o_neStr, ↓o_len, ↓o_lenS, ↓o_min, ↓o_max, ↓o_extract, ↓o_convInt, ↓cd_true, ↓cd_false, ↓gate_tt, ↓gate_ff, ↓gate_tf, ↓gate_ft, ↓gate_undef, ↓o_bind, ↓stay_v, ↓pop_cons, ↓fin_nil, Option.isNone_none, Option.isNone_some, Bool.not_true, Bool.not_false, Nat.zero_add, decide_true, decide_false, if_true, if_false, Bool.false_eq_true, ↓reduceIte]
      refine hk _ w ⟨?_, h⟩
      unfold Dd.row; rw [hs, List.length_replicate]; rfl
  · clear h
    rintro σ w ⟨rfl, h⟩
    have hl := x.row_len
    rw [pop_cons, fin_nil]
    refine make_sl h rfl (by omega) (by omega) (by omega) (by omega) fun b w h => ?_
    simp only [Int.toNat_natCast] at h ⊢
    refine lp_nat (fun r σ w => ∃ i : Nat, σ = [.int .i64 i] ∧ r = x.row.length - i ∧ i ≤ x.row.length ∧ sat E w (pts b (.cells (List.replicate i (bv x.x) ++ List.replicate (x.row.length - i) (Value.int .u8 0)).toArray 5 (0, 0)) * (pts q (.cells [Value.int .i64 x.kind, x.v, bv x.x, .bool x.sh].toArray 24 (0, 0)) * H))) x.row.length ⟨0, rfl, rfl, by omega, by simpa using h⟩ ?_
    clear h
    rintro r σ w again ⟨i, rfl, rfl, hi, h⟩ hag
    simp only [↓o_nil, ↓o_field, ↓o_add, ↓o_sub, ↓o_mul, ↓o_lss, ↓o_leq, ↓o_gtr, ↓o_geq, ↓o_not, ↓o_pick, ↓o_eqInt, ↓o_neInt, ↓o_eqBool, ↓o_neBool, ↓o_eqPtr, ↓o_nePtr, ↓o_eqPtr', ↓o_eqSl, ↓o_neSl, ↓o_eqStr, ↓o_neStr, ↓o_len, ↓o_lenS, ↓o_min, ↓o_max, ↓o_extract, ↓o_convInt, ↓cd_true, ↓cd_false, ↓gate_tt, ↓gate_ff, ↓gate_tf, ↓gate_ft, ↓gate_undef, ↓o_bind, ↓stay_v, ↓pop_cons, ↓fin_nil, Option.isNone_none, Option.isNone_some, Bool.not_true, Bool.not_false, Nat.zero_add, decide_true, decide_false, if_true, if_false, Bool.false_eq_true, ↓reduceIte]
    refine cd_dec (fun hlt => ?_) (fun hge => ?_)
    · have hlt : i < x.row.length := by omega
      refine ld_at (b := q) h ?_
      rw [o_index (by omega) (by omega)]
      simp only [Int.toNat_natCast, Nat.mul_one, Nat.zero_add]
      refine store_sl (b := b) h rfl (by simp; omega) fun w h => ?_
      rw [i64_of (by omega) (by omega)]
      refine hag _ _ _ (by omega) ⟨i + 1, rfl, rfl, by omega, ?_⟩
      rw [set_fill (by simp) hlt, ← List.replicate_succ'] at h
      exact h
    · have : i = x.row.length := by omega
      subst this
      simp only [Nat.sub_self, List.replicate_zero, List.append_nil] at h
      refine k _ w ?_
      have e : List.replicate x.row.length (bv x.x) = x.row.map bv := by unfold Dd.row; rw [List.length_replicate, List.map_replicate]
      rw [e] at h
      have h := osl_of (n := x.row.length) (sz := 1) h (by simp) (by omega)
      exact (h.perm (star_left_comm _ _ _)).drop
theorem rPNew_spec {m : Nat} (h : sat E w R) {most : Nat} (h1 : 1 ≤ most) (h2 : most ≤ 64) (k : ∀ q w', sat E w' R → K (.tuple #[.pointer (some ⟨q, 0, none⟩), .int .i64 0]) w') : Calls prog 36 #[.pointer (some ⟨m, 0, none⟩), .int .i64 most] w (Ret K) := by
  refine c36 ?_
  unfold B36
  have e1 : ¬ (most : Int) < 1 := by omega
  have e2 : ¬ (64 : Int) < (most : Int) := by omega
  simp only [e1, e2, ↓o_nil, ↓o_field, ↓o_add, ↓o_sub, ↓o_mul, ↓o_lss, ↓o_leq, ↓o_gtr, ↓o_geq, ↓o_not, ↓o_pick, ↓o_eqInt, ↓o_neInt, ↓o_eqBool, ↓o_neBool, ↓o_eqPtr, ↓o_nePtr, ↓o_eqPtr', ↓o_eqSl, ↓o_neSl, ↓o_eqStr, ↓o_neStr, ↓o_len, ↓o_lenS, ↓o_min, ↓o_max, ↓o_extract, ↓o_convInt, ↓cd_true, ↓cd_false, ↓gate_tt, ↓gate_ff, ↓gate_tf, ↓gate_ft, ↓gate_undef, ↓o_bind, ↓stay_v, ↓pop_cons, ↓fin_nil, Option.isNone_none, Option.isNone_some, Bool.not_true, Bool.not_false, Nat.zero_add, decide_true, decide_false, if_true, if_false, Bool.false_eq_true, ↓reduceIte]
  refine pvv_of (v := .agg #[.pointer (some ⟨m, 0, none⟩), .int .i64 most, .slice none 0 0, .slice none 0 0, .slice none 0 0, .int .i64 0, .int .i64 0]) (fun w => by kernel_rfl) ?_
  refine box_sl h fun q w h => ?_
  exact k q w h.drop
theorem open_spec (h : sat E w R) {size most : Nat} (h1 : 2 ≤ size) (h2 : size ≤ 1000) (h3 : 1 ≤ most) (h4 : most ≤ 64)
    (k : ∀ A q w', sat E w' (pgr A (newP (newL (size + 12) size) most) * R) → K (.tuple #[.pointer (some ⟨A.q, 0, none⟩), .pointer (some ⟨q, 0, none⟩), .bool true]) w') :
    Calls prog 9 #[.int .i64 size, .int .i64 most] w (Ret K) := by
  refine c9 ?_
  unfold B9
  simp only [↓o_nil, ↓o_field, ↓o_add, ↓o_sub, ↓o_mul, ↓o_lss, ↓o_leq, ↓o_gtr, ↓o_geq, ↓o_not, ↓o_pick, ↓o_eqInt, ↓o_neInt, ↓o_eqBool, ↓o_neBool, ↓o_eqPtr, ↓o_nePtr, ↓o_eqPtr', ↓o_eqSl, ↓o_neSl, ↓o_eqStr, ↓o_neStr, ↓o_len, ↓o_lenS, ↓o_min, ↓o_max, ↓o_extract, ↓o_convInt, ↓cd_true, ↓cd_false, ↓gate_tt, ↓gate_ff, ↓gate_tf, ↓gate_ft, ↓gate_undef, ↓o_bind, ↓stay_v, ↓pop_cons, ↓fin_nil, Option.isNone_none, Option.isNone_some, Bool.not_true, Bool.not_false, Nat.zero_add, decide_true, decide_false, if_true, if_false, Bool.false_eq_true, ↓reduceIte]
  rw [i64_of (by omega) (by omega), show (size : Int) + 12 = ((size + 12 : Nat) : Int) by omega]
  refine New_spec h (by omega) (by omega) fun d0 w h => ?_
  simp only [↓o_nil, ↓o_field, ↓o_add, ↓o_sub, ↓o_mul, ↓o_lss, ↓o_leq, ↓o_gtr, ↓o_geq, ↓o_not, ↓o_pick, ↓o_eqInt, ↓o_neInt, ↓o_eqBool, ↓o_neBool, ↓o_eqPtr, ↓o_nePtr, ↓o_eqPtr', ↓o_eqSl, ↓o_neSl, ↓o_eqStr, ↓o_neStr, ↓o_len, ↓o_lenS, ↓o_min, ↓o_max, ↓o_extract, ↓o_convInt, ↓cd_true, ↓cd_false, ↓gate_tt, ↓gate_ff, ↓gate_tf, ↓gate_ft, ↓gate_undef, ↓o_bind, ↓stay_v, ↓pop_cons, ↓fin_nil, Option.isNone_none, Option.isNone_some, Bool.not_true, Bool.not_false, Nat.zero_add, decide_true, decide_false, if_true, if_false, Bool.false_eq_true, ↓reduceIte]
  have h := h.perm (star_comm _ _)
  rw [Int.toNat_natCast] at h
  refine rNew_spec h (by omega) (by omega) fun r0 w h => ?_
  rw [Int.toNat_natCast] at h
  simp only [↓o_nil, ↓o_field, ↓o_add, ↓o_sub, ↓o_mul, ↓o_lss, ↓o_leq, ↓o_gtr, ↓o_geq, ↓o_not, ↓o_pick, ↓o_eqInt, ↓o_neInt, ↓o_eqBool, ↓o_neBool, ↓o_eqPtr, ↓o_nePtr, ↓o_eqPtr', ↓o_eqSl, ↓o_neSl, ↓o_eqStr, ↓o_neStr, ↓o_len, ↓o_lenS, ↓o_min, ↓o_max, ↓o_extract, ↓o_convInt, ↓cd_true, ↓cd_false, ↓gate_tt, ↓gate_ff, ↓gate_tf, ↓gate_ft, ↓gate_undef, ↓o_bind, ↓stay_v, ↓pop_cons, ↓fin_nil, Option.isNone_none, Option.isNone_some, Bool.not_true, Bool.not_false, Nat.zero_add, decide_true, decide_false, if_true, if_false, Bool.false_eq_true, ↓reduceIte]
  refine Open_spec (S := newL (size + 12) size) (gs := []) (newL_inv h1 (by omega) (by omega)) rfl (by show (0 : Nat) < 2 ^ 62; decide) (dd := d0) (W := []) h (Z_wf (by omega) (by omega)) fun p d b w h => ?_
  simp only [↓o_nil, ↓o_field, ↓o_add, ↓o_sub, ↓o_mul, ↓o_lss, ↓o_leq, ↓o_gtr, ↓o_geq, ↓o_not, ↓o_pick, ↓o_eqInt, ↓o_neInt, ↓o_eqBool, ↓o_neBool, ↓o_eqPtr, ↓o_nePtr, ↓o_eqPtr', ↓o_eqSl, ↓o_neSl, ↓o_eqStr, ↓o_neStr, ↓o_len, ↓o_lenS, ↓o_min, ↓o_max, ↓o_extract, ↓o_convInt, ↓cd_true, ↓cd_false, ↓gate_tt, ↓gate_ff, ↓gate_tf, ↓gate_ft, ↓gate_undef, ↓o_bind, ↓stay_v, ↓pop_cons, ↓fin_nil, Option.isNone_none, Option.isNone_some, Bool.not_true, Bool.not_false, Nat.zero_add, decide_true, decide_false, if_true, if_false, Bool.false_eq_true, ↓reduceIte]
  unfold lgI at h
  have h : sat E w (rdsk r0 (List.replicate (size + 12) zeros) [] * (pts p (.cells (lcells (newL (size + 12) size) d b).toArray 97 (0, 0)) * (dsk d (newL (size + 12) size).L (newL (size + 12) size).W * (omap b (mpA (newL (size + 12) size).a) * R)))) :=
    (h.perm (show _ = dsk d0 (List.replicate (size + 12) zeros) [] * (rdsk r0 (List.replicate (size + 12) zeros) [] * (pts p (.cells (lcells (newL (size + 12) size) d b).toArray 97 (0, 0)) * (dsk d (newL (size + 12) size).L (newL (size + 12) size).W * (omap b (mpA (newL (size + 12) size).a) * R)))) by ac_rfl)).drop
  refine rOpen_spec h h1 (by omega) (by omega) fun m r w h => ?_
  simp only [↓o_nil, ↓o_field, ↓o_add, ↓o_sub, ↓o_mul, ↓o_lss, ↓o_leq, ↓o_gtr, ↓o_geq, ↓o_not, ↓o_pick, ↓o_eqInt, ↓o_neInt, ↓o_eqBool, ↓o_neBool, ↓o_eqPtr, ↓o_nePtr, ↓o_eqPtr', ↓o_eqSl, ↓o_neSl, ↓o_eqStr, ↓o_neStr, ↓o_len, ↓o_lenS, ↓o_min, ↓o_max, ↓o_extract, ↓o_convInt, ↓cd_true, ↓cd_false, ↓gate_tt, ↓gate_ff, ↓gate_tf, ↓gate_ft, ↓gate_undef, ↓o_bind, ↓stay_v, ↓pop_cons, ↓fin_nil, Option.isNone_none, Option.isNone_some, Bool.not_true, Bool.not_false, Nat.zero_add, decide_true, decide_false, if_true, if_false, Bool.false_eq_true, ↓reduceIte]
  have h : sat E w (lgI p d b (newL (size + 12) size) R) := by
    unfold rlI at h
    unfold lgI
    exact h.drop.drop
  refine PNew_spec h h3 h4 fun A w hA h => ?_
  simp only [↓o_nil, ↓o_field, ↓o_add, ↓o_sub, ↓o_mul, ↓o_lss, ↓o_leq, ↓o_gtr, ↓o_geq, ↓o_not, ↓o_pick, ↓o_eqInt, ↓o_neInt, ↓o_eqBool, ↓o_neBool, ↓o_eqPtr, ↓o_nePtr, ↓o_eqPtr', ↓o_eqSl, ↓o_neSl, ↓o_eqStr, ↓o_neStr, ↓o_len, ↓o_lenS, ↓o_min, ↓o_max, ↓o_extract, ↓o_convInt, ↓cd_true, ↓cd_false, ↓gate_tt, ↓gate_ff, ↓gate_tf, ↓gate_ft, ↓gate_undef, ↓o_bind, ↓stay_v, ↓pop_cons, ↓fin_nil, Option.isNone_none, Option.isNone_some, Bool.not_true, Bool.not_false, Nat.zero_add, decide_true, decide_false, if_true, if_false, Bool.false_eq_true, ↓reduceIte]
  refine rPNew_spec h h3 h4 fun q w h => ?_
  simp only [decide_true, beq_self_eq_true, ↓o_nil, ↓o_field, ↓o_add, ↓o_sub, ↓o_mul, ↓o_lss, ↓o_leq, ↓o_gtr, ↓o_geq, ↓o_not, ↓o_pick, ↓o_eqInt, ↓o_neInt, ↓o_eqBool, ↓o_neBool, ↓o_eqPtr, ↓o_nePtr, ↓o_eqPtr', ↓o_eqSl, ↓o_neSl, ↓o_eqStr, ↓o_neStr, ↓o_len, ↓o_lenS, ↓o_min, ↓o_max, ↓o_extract, ↓o_convInt, ↓cd_true, ↓cd_false, ↓gate_tt, ↓gate_ff, ↓gate_tf, ↓gate_ft, ↓gate_undef, ↓o_bind, ↓stay_v, ↓pop_cons, ↓fin_nil, Option.isNone_none, Option.isNone_some, Bool.not_true, Bool.not_false, Nat.zero_add, decide_true, decide_false, if_true, if_false, Bool.false_eq_true, ↓reduceIte]
  exact k A q w h
theorem all_len (S : Lg) : S.all.length = S.pages := by simp [Lg.all]
theorem all_at {S : Lg} {n : Nat} (hn : n < S.pages) : S.all[n]'(by rw [all_len]; exact hn) = S.view n := by simp [Lg.all]
/-- All pages of a cache's log. -/
theorem PAll_spec {A : Ad} {P : Pg} {gs : List (List Int)} (i : LInv P.S gs) (h : sat E w (pgr A P * R)) (hp : P.S.pages ≤ 100)
    (k : ∀ v vs w', sat E w' (osl 30 1 v P.S.all.length vs * (pers (immAll vs P.S.all) * (pgr A P * R))) → K v w') : Calls prog 16 #[.pointer (some ⟨A.p, 0, none⟩)] w (Ret K) := by
  obtain ⟨Y, h, hb⟩ := pgr_log h
  generalize hS : P.S = S at *
  have hsz := i.sz; have hle := i.wf.le
  have hall := all_len S
  refine c16 ?_
  unfold B16
  refine lp_nat (fun q σ w => ∃ (n : Nat) (v : Value) (vs : List Value), σ = [v, .int .i64 n] ∧ q = S.pages - n ∧ n ≤ S.pages ∧ sat E w (osl 30 1 v n vs * (pers (immAll vs (S.all.take n)) * lgI A.p A.d A.b S (Y * R)))) S.pages ⟨0, .slice none 0 0, [], rfl, rfl, by omega, ?_⟩ ?_
  · exact osl_nil (immAll_nil h) 30 1
  clear h
  rintro q σ w again ⟨n, v, vs, rfl, rfl, hn, h⟩ hag
  try simp only [↓o_nil, ↓o_field, ↓o_add, ↓o_sub, ↓o_mul, ↓o_lss, ↓o_leq, ↓o_gtr, ↓o_geq, ↓o_not, ↓o_pick, ↓o_eqInt, ↓o_neInt, ↓o_eqBool, ↓o_neBool, ↓o_eqPtr, ↓o_nePtr, ↓o_eqPtr', ↓o_eqSl, ↓o_neSl, ↓o_eqStr, ↓o_neStr, ↓o_len, ↓o_lenS, ↓o_min, ↓o_max, ↓o_extract, ↓o_convInt, ↓cd_true, ↓cd_false, ↓gate_tt, ↓gate_ff, ↓gate_tf, ↓gate_ft, ↓gate_undef, ↓o_bind, ↓stay_v, ↓pop_cons, ↓fin_nil, Option.isNone_none, Option.isNone_some, Bool.not_true, Bool.not_false, Nat.zero_add, decide_true, decide_false, if_true, if_false, Bool.false_eq_true, ↓reduceIte]
  have h := lg_in (X := osl 30 1 v n vs * pers (immAll vs (S.all.take n))) (by rw [star_assoc]; exact h)
  refine Pages_spec h (by omega) hle fun w h => ?_
  try simp only [↓o_nil, ↓o_field, ↓o_add, ↓o_sub, ↓o_mul, ↓o_lss, ↓o_leq, ↓o_gtr, ↓o_geq, ↓o_not, ↓o_pick, ↓o_eqInt, ↓o_neInt, ↓o_eqBool, ↓o_neBool, ↓o_eqPtr, ↓o_nePtr, ↓o_eqPtr', ↓o_eqSl, ↓o_neSl, ↓o_eqStr, ↓o_neStr, ↓o_len, ↓o_lenS, ↓o_min, ↓o_max, ↓o_extract, ↓o_convInt, ↓cd_true, ↓cd_false, ↓gate_tt, ↓gate_ff, ↓gate_tf, ↓gate_ft, ↓gate_undef, ↓o_bind, ↓stay_v, ↓pop_cons, ↓fin_nil, Option.isNone_none, Option.isNone_some, Bool.not_true, Bool.not_false, Nat.zero_add, decide_true, decide_false, if_true, if_false, Bool.false_eq_true, ↓reduceIte]
  by_cases hlt : (n : Int) < (S.pages : Int)
  · have h100 : (n : Int) < 100 := by omega
    simp only [hlt, h100, ↓o_nil, ↓o_field, ↓o_add, ↓o_sub, ↓o_mul, ↓o_lss, ↓o_leq, ↓o_gtr, ↓o_geq, ↓o_not, ↓o_pick, ↓o_eqInt, ↓o_neInt, ↓o_eqBool, ↓o_neBool, ↓o_eqPtr, ↓o_nePtr, ↓o_eqPtr', ↓o_eqSl, ↓o_neSl, ↓o_eqStr, ↓o_neStr, ↓o_len, ↓o_lenS, ↓o_min, ↓o_max, ↓o_extract, ↓o_convInt, ↓cd_true, ↓cd_false, ↓gate_tt, ↓gate_ff, ↓gate_tf, ↓gate_ft, ↓gate_undef, ↓o_bind, ↓stay_v, ↓pop_cons, ↓fin_nil, Option.isNone_none, Option.isNone_some, Bool.not_true, Bool.not_false, Nat.zero_add, decide_true, decide_false, if_true, if_false, Bool.false_eq_true, ↓reduceIte]
    have hlt : n < S.pages := by omega
    refine Read_ok h (by omega) hle hlt i.wf.l (fun v e => i.look e) (i.place_lt hlt) fun rv w h => ?_
    try simp only [↓o_nil, ↓o_field, ↓o_add, ↓o_sub, ↓o_mul, ↓o_lss, ↓o_leq, ↓o_gtr, ↓o_geq, ↓o_not, ↓o_pick, ↓o_eqInt, ↓o_neInt, ↓o_eqBool, ↓o_neBool, ↓o_eqPtr, ↓o_nePtr, ↓o_eqPtr', ↓o_eqSl, ↓o_neSl, ↓o_eqStr, ↓o_neStr, ↓o_len, ↓o_lenS, ↓o_min, ↓o_max, ↓o_extract, ↓o_convInt, ↓cd_true, ↓cd_false, ↓gate_tt, ↓gate_ff, ↓gate_tf, ↓gate_ft, ↓gate_undef, ↓o_bind, ↓stay_v, ↓pop_cons, ↓fin_nil, Option.isNone_none, Option.isNone_some, Bool.not_true, Bool.not_false, Nat.zero_add, decide_true, decide_false, if_true, if_false, Bool.false_eq_true, ↓reduceIte]
    have hv256 := view_len i hlt
    have hf := osl_freeze h
    obtain ⟨ar, cr, rfl, _, _⟩ := hf.pers_get
    have hf : sat E w (osl 30 1 v n vs * (pers (immAll (vs ++ [.slice ar 256 cr]) (S.all.take n ++ [S.view n])) * lgI A.p A.d A.b S (Y * R))) := by
      unfold lgI at hf
      have h2 := hf.perm (show _ = pers (immS (.slice ar 256 cr) 256 ((S.L.getD (S.place n) []).map bv)) * (pers (immAll vs (S.all.take n)) * (osl 30 1 v n vs * (pts A.p (.cells (lcells S A.d A.b).toArray 97 (0, 0)) * (dsk A.d S.L S.W * (omap A.b (mpA S.a) * (Y * R)))))) by ac_rfl)
      have h3 := sat_snoc (l := S.view n) (v := .slice ar 256 cr) (by rw [hv256]; exact h2)
      unfold lgI
      exact h3.perm (by ac_rfl)
    refine push_sl (v := v) hf rfl rfl (by omega) (by omega) fun v2 w h => ?_
    rw [i64_of (by omega) (by omega)]
    refine hag (S.pages - (n + 1)) _ _ (by omega) ⟨n + 1, v2, vs ++ [.slice ar 256 cr], rfl, rfl, by omega, ?_⟩
    rw [List.take_succ_eq_append_getElem (by rw [hall]; exact hlt), all_at hlt]
    exact h
  · have hnn : n = S.pages := by omega
    subst hnn
    simp only [hlt, ↓o_nil, ↓o_field, ↓o_add, ↓o_sub, ↓o_mul, ↓o_lss, ↓o_leq, ↓o_gtr, ↓o_geq, ↓o_not, ↓o_pick, ↓o_eqInt, ↓o_neInt, ↓o_eqBool, ↓o_neBool, ↓o_eqPtr, ↓o_nePtr, ↓o_eqPtr', ↓o_eqSl, ↓o_neSl, ↓o_eqStr, ↓o_neStr, ↓o_len, ↓o_lenS, ↓o_min, ↓o_max, ↓o_extract, ↓o_convInt, ↓cd_true, ↓cd_false, ↓gate_tt, ↓gate_ff, ↓gate_tf, ↓gate_ft, ↓gate_undef, ↓o_bind, ↓stay_v, ↓pop_cons, ↓fin_nil, Option.isNone_none, Option.isNone_some, Bool.not_true, Bool.not_false, Nat.zero_add, decide_true, decide_false, if_true, if_false, Bool.false_eq_true, ↓reduceIte]
    refine k v vs w ?_
    have h := lg_out h
    rw [star_assoc, show S.all.take S.pages = S.all by rw [← hall, List.take_length]] at h
    rw [hall]
    have h : sat E w (lgI A.p A.d A.b S (Y * (osl 30 1 v S.pages vs * (pers (immAll vs S.all) * R)))) := by
      unfold lgI at h ⊢
      exact h.perm (by ac_rfl)
    exact (hb h).perm (by ac_rfl)
/-! ### live -/
theorem use_counts {P : Pg} {n : Int} : (useP P n).hits = (use1 P n).hits ∧ (useP P n).misses = (use1 P n).misses := by
  unfold useP
  split
  · split <;> exact ⟨rfl, rfl⟩
  · exact ⟨rfl, rfl⟩
def liveP : Pg := readP (readP (readP (newP (newL 17 5) 1) 0) 0) 1
def liveB : Bs := List.replicate 256 3
theorem live_row : liveP.row = [1] := by kernel_rfl
theorem live_counts : liveP.hits = 1 ∧ liveP.misses = 2 := ⟨by kernel_rfl, by kernel_rfl⟩
theorem live_keys : liveP.clean.map (·.1) = [1] := by kernel_rfl
theorem live_same : liveP.S = newL 17 5 ∧ liveP.dirty = [] ∧ liveP.most = 1 := by
  unfold liveP
  obtain ⟨a1, a2, a3, a4⟩ := readP_same (P := readP (readP (newP (newL 17 5) 1) 0) 0) (n := 1)
  obtain ⟨b1, b2, b3, b4⟩ := readP_same (P := readP (newP (newL 17 5) 1) 0) (n := 0)
  obtain ⟨c1, c2, c3, c4⟩ := readP_same (P := newP (newL 17 5) 1) (n := 0)
  exact ⟨by rw [a1, b1, c1]; rfl, by rw [a2, b2, c2]; rfl, by rw [a4, b4, c4]; rfl⟩
theorem live_spec (h : sat E w H) (k : ∀ w', sat E w' H → K (.bool true) w') : Calls prog 10 #[] w (Ret K) := by
  have i0 := newL_inv (n := 17) (size := 5) (by omega) (by omega) (by omega)
  have ok0 := newP_ok i0 (most := 1) (by omega) (by omega)
  have hpg : (newL 17 5).pages = 11 := rfl
  obtain ⟨s1, s2, s3⟩ := live_same
  obtain ⟨t1, t2⟩ := live_counts
  refine c10 ?_
  unfold B10
  refine open_spec (size := 5) (most := 1) h (by omega) (by omega) (by omega) (by omega) fun A q w h => ?_
  simp only [↓o_nil, ↓o_field, ↓o_add, ↓o_sub, ↓o_mul, ↓o_lss, ↓o_leq, ↓o_gtr, ↓o_geq, ↓o_not, ↓o_pick, ↓o_eqInt, ↓o_neInt, ↓o_eqBool, ↓o_neBool, ↓o_eqPtr, ↓o_nePtr, ↓o_eqPtr', ↓o_eqSl, ↓o_neSl, ↓o_eqStr, ↓o_neStr, ↓o_len, ↓o_lenS, ↓o_min, ↓o_max, ↓o_extract, ↓o_convInt, ↓cd_true, ↓cd_false, ↓gate_tt, ↓gate_ff, ↓gate_tf, ↓gate_ft, ↓gate_undef, ↓o_bind, ↓stay_v, ↓pop_cons, ↓fin_nil, Option.isNone_none, Option.isNone_some, Bool.not_true, Bool.not_false, Nat.zero_add, decide_true, decide_false, if_true, if_false, Bool.false_eq_true, ↓reduceIte]
  refine PRead_spec (n := 0) ok0 h (by show 0 < (newL 17 5).pages; rw [hpg]; omega) (by decide) (by decide) fun v0 w ok1 h => ?_
  have h := h.drop
  obtain ⟨c1, c2⟩ := counts_le (P := newP (newL 17 5) 1) (n := 0)
  have hp1 := readP_same (P := newP (newL 17 5) 1) (n := 0)
  refine PRead_spec (n := 0) ok1 h (by show 0 < (readP (newP (newL 17 5) 1) 0).S.pages; rw [hp1.1]; show 0 < (newL 17 5).pages; rw [hpg]; omega) (Nat.le_trans c1 (by decide)) (Nat.le_trans c2 (by decide)) fun v1 w ok2 h => ?_
  have h := h.drop
  obtain ⟨d1, d2⟩ := counts_le (P := readP (newP (newL 17 5) 1) 0) (n := 0)
  have hp2 := readP_same (P := readP (newP (newL 17 5) 1) 0) (n := 0)
  have e1 : (readP (newP (newL 17 5) 1) 0).hits ≤ 1 := c1
  have e2 : (readP (newP (newL 17 5) 1) 0).misses ≤ 1 := c2
  refine PRead_spec (n := 1) ok2 h (by show 1 < (readP (readP (newP (newL 17 5) 1) 0) 0).S.pages; rw [hp2.1, hp1.1]; show 1 < (newL 17 5).pages; rw [hpg]; omega) (by show (readP (readP (newP (newL 17 5) 1) 0) 0).hits ≤ _; omega) (by show (readP (readP (newP (newL 17 5) 1) 0) 0).misses ≤ _; omega) fun v2 w ok3 h => ?_
  have h : sat E w (pgr A liveP * H) := h.drop
  have ok3 : POk liveP [] := ok3
  have hpg3 : liveP.S.pages = 11 := by rw [s1]; exact hpg
  refine Cached_spec (by rw [live_row]; decide) h fun cv w h => ?_
  rw [live_row] at h
  have h := h.perm (star_left_comm _ _ _)
  refine pvv_of (v := .agg (dcells ⟨0, .slice none 0 0, [], 3, false⟩).toArray) (fun _ => by kernel_rfl) ?_
  refine bytes_spec h ⟨0, .slice none 0 0, [], 3, false⟩ fun bv0 w h => ?_
  have hrow : (⟨0, .slice none 0 0, [], 3, false⟩ : Dd).row = liveB := rfl
  rw [hrow] at h
  have hbl : liveB.length = 256 := rfl
  have h := h.perm (star_left_comm _ _ _)
  have hwE : writeE liveP 2 liveB = 0 := by
    unfold writeE lookE
    rw [if_neg (by rw [if_neg (by rw [hpg3]; decide)]; simp), if_neg (by rw [hbl]; decide), if_neg (by rw [s2]; simp)]
  have hwT : writeP liveP 2 liveB = writeT liveP 2 liveB := by unfold writeP; rw [if_pos hwE]
  refine PWrite_spec ok3 h (n := 2) (b := liveB) Rds.own (by decide) fun w h => ?_
  rw [hwE]
  rw [hwT] at h
  have ok4 := ok3.write hwE
  have hS4 : (writeT liveP 2 liveB).S = newL 17 5 := s1
  have hd4 : (writeT liveP 2 liveB).dirty = [((2 : Int), liveB)] := by show putB liveP.dirty 2 liveB = _; rw [s2]; rfl
  have hco : ComOk (writeT liveP 2 liveB).S (writeT liveP 2 liveB).dirty := by
    rw [hS4, hd4]
    exact com_ok i0 (by simp) (by simp) (fun p hp => by simp at hp; subst hp; exact ⟨by decide, by rw [hpg]; decide⟩) ⟨by simp, fun p hp => by simp at hp; subst hp; rfl⟩ (by show 2 ≤ 5; decide)
  refine PCommit_spec ok4 h (by rw [hS4]; decide) (by rw [hS4]; decide) fun w h => ?_
  rw [hco.e]
  obtain ⟨gs5, ok5⟩ := ok4.com
  have hS5 : (comP (writeT liveP 2 liveB)).S.pages = 11 := by show (comS _ _).pages = _; rw [com_pages, hS4, hpg]
  have hd5 : (comP (writeT liveP 2 liveB)).dirty = [] := by unfold comP; simp only; rw [if_pos hco.e]
  have hh5 : (comP (writeT liveP 2 liveB)).hits = 1 := t1
  have hm5 : (comP (writeT liveP 2 liveB)).misses = 2 := t2
  have hc5 : lookB (comP (writeT liveP 2 liveB)).clean 2 = none := by
    refine lookB_none.2 ?_
    show (2 : Int) ∉ (delB liveP.clean 2).map (·.1)
    rw [delB_keys ok3.cn, live_keys]; decide
  have hpage : (comP (writeT liveP 2 liveB)).page 2 = liveB := by
    unfold Pg.page
    rw [hd5]
    show ((none : Option Bs).getD ((comS (writeT liveP 2 liveB).S (writeT liveP 2 liveB).dirty).view 2)) = _
    rw [Option.getD_none, ok4.i.com_view (by rw [hS4, hpg]; omega), if_pos hco.e, hd4]
    rfl
  have hr6 : readP (comP (writeT liveP 2 liveB)) 2 = useP (comP (writeT liveP 2 liveB)) 2 := by
    unfold readP lookE
    rw [if_pos (by rw [if_neg (by rw [hS5]; decide)]), hd5]; rfl
  have hk6 : (readP (comP (writeT liveP 2 liveB)) 2).hits = 1 ∧ (readP (comP (writeT liveP 2 liveB)) 2).misses = 3 := by
    rw [hr6, use_counts.1, use_counts.2]
    unfold use1
    rw [hc5]
    exact ⟨hh5, by show (comP (writeT liveP 2 liveB)).misses + 1 = 3; rw [hm5]⟩
  generalize hP5 : comP (writeT liveP 2 liveB) = P5 at *
  refine PRead_spec (n := 2) ok5 h (by rw [hS5]; omega) (by omega) (by omega) fun v3 w ok6 h => ?_
  rw [hpage] at h
  simp only [↓o_nil, ↓o_field, ↓o_add, ↓o_sub, ↓o_mul, ↓o_lss, ↓o_leq, ↓o_gtr, ↓o_geq, ↓o_not, ↓o_pick, ↓o_eqInt, ↓o_neInt, ↓o_eqBool, ↓o_neBool, ↓o_eqPtr, ↓o_nePtr, ↓o_eqPtr', ↓o_eqSl, ↓o_neSl, ↓o_eqStr, ↓o_neStr, ↓o_len, ↓o_lenS, ↓o_min, ↓o_max, ↓o_extract, ↓o_convInt, ↓cd_true, ↓cd_false, ↓gate_tt, ↓gate_ff, ↓gate_tf, ↓gate_ft, ↓gate_undef, ↓o_bind, ↓stay_v, ↓pop_cons, ↓fin_nil, Option.isNone_none, Option.isNone_some, Bool.not_true, Bool.not_false, Nat.zero_add, decide_true, decide_false, if_true, if_false, Bool.false_eq_true, ↓reduceIte]
  have hk6' : (readP P5 ((2 : Nat) : Int)).hits = 1 ∧ (readP P5 ((2 : Nat) : Int)).misses = 3 := hk6
  refine Misses_spec (h.perm (star_left_comm _ _ _)) ?_
  rw [hk6'.2]
  simp only [show ((3 : Nat) : Int) = 3 from rfl, decide_true, ↓o_nil, ↓o_field, ↓o_add, ↓o_sub, ↓o_mul, ↓o_lss, ↓o_leq, ↓o_gtr, ↓o_geq, ↓o_not, ↓o_pick, ↓o_eqInt, ↓o_neInt, ↓o_eqBool, ↓o_neBool, ↓o_eqPtr, ↓o_nePtr, ↓o_eqPtr', ↓o_eqSl, ↓o_neSl, ↓o_eqStr, ↓o_neStr, ↓o_len, ↓o_lenS, ↓o_min, ↓o_max, ↓o_extract, ↓o_convInt, ↓cd_true, ↓cd_false, ↓gate_tt, ↓gate_ff, ↓gate_tf, ↓gate_ft, ↓gate_undef, ↓o_bind, ↓stay_v, ↓pop_cons, ↓fin_nil, Option.isNone_none, Option.isNone_some, Bool.not_true, Bool.not_false, Nat.zero_add, decide_true, decide_false, if_true, if_false, Bool.false_eq_true, ↓reduceIte]
  refine Hits_spec (h.perm (star_left_comm _ _ _)) ?_
  rw [hk6'.1]
  simp only [show ((1 : Nat) : Int) = 1 from rfl, decide_true, ↓o_nil, ↓o_field, ↓o_add, ↓o_sub, ↓o_mul, ↓o_lss, ↓o_leq, ↓o_gtr, ↓o_geq, ↓o_not, ↓o_pick, ↓o_eqInt, ↓o_neInt, ↓o_eqBool, ↓o_neBool, ↓o_eqPtr, ↓o_nePtr, ↓o_eqPtr', ↓o_eqSl, ↓o_neSl, ↓o_eqStr, ↓o_neStr, ↓o_len, ↓o_lenS, ↓o_min, ↓o_max, ↓o_extract, ↓o_convInt, ↓cd_true, ↓cd_false, ↓gate_tt, ↓gate_ff, ↓gate_tf, ↓gate_ft, ↓gate_undef, ↓o_bind, ↓stay_v, ↓pop_cons, ↓fin_nil, Option.isNone_none, Option.isNone_some, Bool.not_true, Bool.not_false, Nat.zero_add, decide_true, decide_false, if_true, if_false, Bool.false_eq_true, ↓reduceIte]
  have h := h.perm (show _ = osl 3 1 cv ([(1 : Int)]).length (([(1 : Int)]).map iv) * (osl 5 1 v3 256 (liveB.map bv) * (osl 5 1 bv0 liveB.length (liveB.map bv) * (pgr A (readP P5 ((2 : Nat) : Int)) * H))) by ac_rfl)
  obtain ⟨ac, cc, rfl, _, _, _⟩ := osl_shape h
  simp only [show ((([(1 : Int)]).length : Nat) : Int) = 1 from rfl, decide_true, ↓o_nil, ↓o_field, ↓o_add, ↓o_sub, ↓o_mul, ↓o_lss, ↓o_leq, ↓o_gtr, ↓o_geq, ↓o_not, ↓o_pick, ↓o_eqInt, ↓o_neInt, ↓o_eqBool, ↓o_neBool, ↓o_eqPtr, ↓o_nePtr, ↓o_eqPtr', ↓o_eqSl, ↓o_neSl, ↓o_eqStr, ↓o_neStr, ↓o_len, ↓o_lenS, ↓o_min, ↓o_max, ↓o_extract, ↓o_convInt, ↓cd_true, ↓cd_false, ↓gate_tt, ↓gate_ff, ↓gate_tf, ↓gate_ft, ↓gate_undef, ↓o_bind, ↓stay_v, ↓pop_cons, ↓fin_nil, Option.isNone_none, Option.isNone_some, Bool.not_true, Bool.not_false, Nat.zero_add, decide_true, decide_false, if_true, if_false, Bool.false_eq_true, ↓reduceIte]
  obtain ⟨b1, o1, rfl, hb1⟩ := win_cell ((Rds.osl).win h.drop') (j := 0) (by simp)
  rw [o_index (by omega) (by decide)]
  simp only [Int.toNat_zero, Nat.zero_mul, Nat.add_zero] at hb1 ⊢
  refine ld_cell hb1 ?_
  simp only [List.map_cons, List.getElem_cons_zero, iv, decide_true, ↓o_nil, ↓o_field, ↓o_add, ↓o_sub, ↓o_mul, ↓o_lss, ↓o_leq, ↓o_gtr, ↓o_geq, ↓o_not, ↓o_pick, ↓o_eqInt, ↓o_neInt, ↓o_eqBool, ↓o_neBool, ↓o_eqPtr, ↓o_nePtr, ↓o_eqPtr', ↓o_eqSl, ↓o_neSl, ↓o_eqStr, ↓o_neStr, ↓o_len, ↓o_lenS, ↓o_min, ↓o_max, ↓o_extract, ↓o_convInt, ↓cd_true, ↓cd_false, ↓gate_tt, ↓gate_ff, ↓gate_tf, ↓gate_ft, ↓gate_undef, ↓o_bind, ↓stay_v, ↓pop_cons, ↓fin_nil, Option.isNone_none, Option.isNone_some, Bool.not_true, Bool.not_false, Nat.zero_add, decide_true, decide_false, if_true, if_false, Bool.false_eq_true, ↓reduceIte]
  obtain ⟨a3, c3, rfl, _, _, _⟩ := osl_shape h.drop
  simp only [show ((256 : Nat) : Int) = 256 from rfl, decide_true, ↓o_nil, ↓o_field, ↓o_add, ↓o_sub, ↓o_mul, ↓o_lss, ↓o_leq, ↓o_gtr, ↓o_geq, ↓o_not, ↓o_pick, ↓o_eqInt, ↓o_neInt, ↓o_eqBool, ↓o_neBool, ↓o_eqPtr, ↓o_nePtr, ↓o_eqPtr', ↓o_eqSl, ↓o_neSl, ↓o_eqStr, ↓o_neStr, ↓o_len, ↓o_lenS, ↓o_min, ↓o_max, ↓o_extract, ↓o_convInt, ↓cd_true, ↓cd_false, ↓gate_tt, ↓gate_ff, ↓gate_tf, ↓gate_ft, ↓gate_undef, ↓o_bind, ↓stay_v, ↓pop_cons, ↓fin_nil, Option.isNone_none, Option.isNone_some, Bool.not_true, Bool.not_false, Nat.zero_add, decide_true, decide_false, if_true, if_false, Bool.false_eq_true, ↓reduceIte]
  obtain ⟨b2, o2, rfl, hb2⟩ := win_cell ((Rds.osl).win h.drop.drop') (j := 9) (by rw [List.length_map]; decide)
  rw [o_index (by omega) (by decide)]
  refine ld_cell hb2 ?_
  rw [List.getElem_map]
  simp only [show bv (liveB[9]'(by decide)) = Value.int .u8 3 from rfl, decide_true, ↓o_nil, ↓o_field, ↓o_add, ↓o_sub, ↓o_mul, ↓o_lss, ↓o_leq, ↓o_gtr, ↓o_geq, ↓o_not, ↓o_pick, ↓o_eqInt, ↓o_neInt, ↓o_eqBool, ↓o_neBool, ↓o_eqPtr, ↓o_nePtr, ↓o_eqPtr', ↓o_eqSl, ↓o_neSl, ↓o_eqStr, ↓o_neStr, ↓o_len, ↓o_lenS, ↓o_min, ↓o_max, ↓o_extract, ↓o_convInt, ↓cd_true, ↓cd_false, ↓gate_tt, ↓gate_ff, ↓gate_tf, ↓gate_ft, ↓gate_undef, ↓o_bind, ↓stay_v, ↓pop_cons, ↓fin_nil, Option.isNone_none, Option.isNone_some, Bool.not_true, Bool.not_false, Nat.zero_add, decide_true, decide_false, if_true, if_false, Bool.false_eq_true, ↓reduceIte]
  exact k w h.drop.drop.drop.drop
end Go.Proofs.YtcjklbhobmkalaaGreat

/-
  Deeds in a slice; how far a cache may have come; a page of any number is read.
-/
set_option linter.all false
set_option maxRecDepth 100000
namespace Go.Proofs.YtcjklbhobmkalaaGreat
open Go Hold Go.ChangeShapes Go.WideShapes
variable {E : World0} {w : World} {H R X : HP} {K : Value → World → Prop}
theorem u24 : ∃ f0 f1 f2 f3 : Field, prog.underlying 24 = some (.struct #[f0, f1, f2, f3]) ∧ (f0.type = 3 ∧ f0.offset = 0) ∧ (f1.type = 22 ∧ f1.offset = 1) ∧ (f2.type = 5 ∧ f2.offset = 2) ∧ (f3.type = 4 ∧ f3.offset = 3) :=
  ⟨(prog.fieldsOf 24).toList.getD 0 default, (prog.fieldsOf 24).toList.getD 1 default, (prog.fieldsOf 24).toList.getD 2 default, (prog.fieldsOf 24).toList.getD 3 default, by kernel_rfl, ⟨by kernel_rfl, by kernel_rfl⟩, ⟨by kernel_rfl, by kernel_rfl⟩, ⟨by kernel_rfl, by kernel_rfl⟩, ⟨by kernel_rfl, by kernel_rfl⟩⟩
section
variable {W : World} {H : Type} {enc : TypeId × Value → H}
theorem deed_of {n : Nat} {cs : List Value} {D : DataW H × List MemPlace} (h : DataW.trod enc prog W 0 (fun _ => true) true n 24 cs = some D) : ∃ x : {x : Dd // OkD (old W) x}, cs = dcells x.1 := by
  obtain ⟨f0, f1, f2, f3, hu, ⟨t0, o0⟩, ⟨t1, o1⟩, ⟨t2, o2⟩, ⟨t3, o3⟩⟩ := u24
  obtain ⟨xs, m, _, _, hl, hlen, hf⟩ := DataW.trod_struct hu h
  rw [show prog.cellsOf 24 = 4 by kernel_rfl] at hl
  have c3 : prog.cellsOf 3 = 1 := by kernel_rfl
  have c22 : prog.cellsOf 22 = 1 := by kernel_rfl
  have c5 : prog.cellsOf 5 = 1 := by kernel_rfl
  have c4 : prog.cellsOf 4 = 1 := by kernel_rfl
  match xs, hlen, cs, hl with
  | [y0, y1, y2, y3], _, [a, b, c, d], _ =>
    have g0 := hf 0 f0 rfl
    have g1 := hf 1 f1 rfl
    have g2 := hf 2 f2 rfl
    have g3 := hf 3 f3 rfl
    simp only [t0, o0, t1, o1, t2, o2, t3, o3, c4, c22, c5, c3, List.drop, List.take] at g0 g1 g2 g3
    obtain ⟨n0, e0, _⟩ := DataW.trod_int (t := 3) (k := .i64) (by kernel_rfl) g0
    obtain ⟨v, l, e1, h1, z1⟩ := ints_of (t := 22) (e := 3) (by kernel_rfl) (by kernel_rfl) (by kernel_rfl) g1
    obtain ⟨n2, e2, _, hw2⟩ := DataW.trod_int (t := 5) (k := .u8) (by kernel_rfl) g2
    obtain ⟨n3, e3, _⟩ := DataW.trod_bool (t := 4) (by kernel_rfl) g3
    obtain ⟨b2, hb2⟩ := u8_wf hw2
    simp only [List.cons.injEq, and_true] at e0 e1 e2 e3
    rw [hb2] at e2
    subst e0 e1 e2 e3
    exact ⟨⟨⟨n0, b, l, b2, n3⟩, ⟨h1, z1⟩⟩, rfl⟩
variable {r : Reach} {b0 : Nat} {v : Value} {d : DataW H} {p : List MemPlace}
theorem open_deeds (hv : Value.okWide prog W r b0 39 v) (h : DataW.Trod enc prog W 0 (fun _ => true) true 39 v d p) (_hw : ∀ n ∈ d.weights prog 39, n ≤ 140737488351232) :
    ∃ l : List Dd, Rds (old W) v l.length (l.flatMap dcells) ∧ l.length ≤ 9223372036854775807 ∧ ∀ x ∈ l, OkD (old W) x := by
  obtain ⟨l, h1, h2⟩ := open_elems (t := 39) (e := 24) (k := 4) (cells := fun x : {x : Dd // OkD (old W) x} => dcells x.1) (by kernel_rfl) (by kernel_rfl) (by omega) (fun _ => rfl) deed_of hv h
  refine ⟨l.map (·.1), ?_, by simpa using h2, ?_⟩
  · rw [List.length_map, List.flatMap_map]
    exact h1
  · intro x hx
    obtain ⟨y, _, rfl⟩ := List.mem_map.1 hx
    exact y.2
theorem open_deed (hv : Value.okWide prog W r b0 24 v) (h : DataW.Trod enc prog W 0 (fun _ => true) true 24 v d p) (_hw : ∀ n ∈ d.weights prog 24, n ≤ 140737488351232) : ∃ x : Dd, v = .agg (dcells x).toArray ∧ OkD (old W) x := by
  obtain ⟨f0, f1, f2, f3, hu, _⟩ := u24
  obtain ⟨cs, rfl, _⟩ := Go.WideShapes.okWide_struct hu hv
  obtain ⟨fuel, hf⟩ := h
  obtain ⟨x, hx⟩ := deed_of hf
  refine ⟨x.1, ?_, x.2⟩
  have : cs.toList = dcells x.1 := by simpa [Value.cells] using hx
  rw [← this]
theorem open_k (hv : Value.okWide prog W r b0 53 v) (h : DataW.Trod enc prog W 0 (fun _ => true) true 53 v d p) (_hw : ∀ n ∈ d.weights prog 53, n ≤ 140737488351232) : ∃ x : Fin 65536, v = .int .u16 (x.val : Int) := open_u16 (by kernel_rfl) hv h
end
theorem dd_at {l : List Dd} {i : Nat} (h : i < l.length) : ((l.flatMap dcells).drop (i * 4)).take 4 = dcells l[i] := fm_at (cells := dcells) (k := 4) (fun _ => rfl) (List.getElem?_eq_getElem h)
theorem dd_kind {l : List Dd} {i : Nat} (h : i < l.length) : (l.flatMap dcells)[i * 4]? = some (.int .i64 l[i].kind) := by
  have := congrArg (fun l => l[0]?) (dd_at h)
  simpa [dcells] using this
theorem dcells_length (l : List Dd) : (l.flatMap dcells).length = l.length * 4 := fm_length (cells := dcells) (k := 4) (fun _ => rfl) l
theorem OkD.right {x : Dd} (ok : OkD R x) : OkD (X * R) x := ⟨ok.rd.right, ok.len⟩
/-! ### How far -/
structure FarP (P : Pg) (gs : List (List Int)) (N M m : Nat) : Prop where
  ok : POk P gs
  size : P.S.size = N
  len : P.S.L.length = N + 12
  most : P.most = M
  w : P.S.W.length ≤ 3000 * m
  g : P.S.groups ≤ m
  h : P.hits ≤ m
  ms : P.misses ≤ m
theorem FarP.pages {P : Pg} {gs : List (List Int)} {N M m : Nat} (f : FarP P gs N M m) : P.S.pages = 11 := by
  have := f.size; have := f.len; unfold Lg.pages; omega
theorem FarP.start {N M : Nat} (h1 : 2 ≤ N) (h2 : N ≤ 1000) (h3 : 1 ≤ M) (h4 : M ≤ 64) : FarP (newP (newL (N + 12) N) M) [] N M 0 :=
  ⟨newP_ok (newL_inv h1 (by omega) (by omega)) h3 h4, rfl, by simp [newP, newL], rfl, by simp [newP, newL], by simp [newP, newL], by simp [newP], by simp [newP]⟩
theorem readP_bad {P : Pg} {n : Int} (h : lookE P n ≠ 0) : readP P n = P := by unfold readP; rw [if_neg h]
theorem lookE_of {P : Pg} {n : Int} (h : lookE P n = 0) : 0 ≤ n ∧ n < P.S.pages := by
  unfold lookE at h
  by_cases h4 : n < 0 ∨ (P.S.pages : Int) ≤ n
  · rw [if_pos h4] at h; exact absurd h (by decide)
  · omega
theorem POk.readP {P : Pg} {gs : List (List Int)} (ok : POk P gs) (n : Int) : POk (Go.Proofs.YtcjklbhobmkalaaGreat.readP P n) gs := by
  unfold Go.Proofs.YtcjklbhobmkalaaGreat.readP
  split
  · rename_i hl
    obtain ⟨h1, h2⟩ := lookE_of hl
    split
    · exact ok
    · rename_i hd
      refine ok.useP h1 h2 ?_
      rw [← lookB_none]
      cases e : lookB P.dirty n with
      | none => rfl
      | some b => rw [e] at hd; exact absurd rfl hd
  · exact ok
theorem FarP.read {P : Pg} {gs : List (List Int)} {N M m : Nat} (f : FarP P gs N M m) (n : Int) : FarP (readP P n) gs N M (m + 1) := by
  obtain ⟨h1, h2, h3, h4⟩ := readP_same (P := P) (n := n)
  obtain ⟨c1, c2⟩ := counts_le (P := P) (n := n)
  have := f.w; have := f.g; have := f.h; have := f.ms
  exact ⟨f.ok.readP n, by rw [h1]; exact f.size, by rw [h1]; exact f.len, by rw [h4]; exact f.most, by rw [h1]; omega, by rw [h1]; omega, by omega, by omega⟩
theorem writeP_S {P : Pg} {n : Int} {b : Bs} : (writeP P n b).S = P.S ∧ (writeP P n b).most = P.most ∧ (writeP P n b).hits = P.hits ∧ (writeP P n b).misses = P.misses := by
  unfold writeP; split <;> exact ⟨rfl, rfl, rfl, rfl⟩
theorem POk.writeP {P : Pg} {gs : List (List Int)} (ok : POk P gs) (n : Int) (b : Bs) : POk (Go.Proofs.YtcjklbhobmkalaaGreat.writeP P n b) gs := by
  unfold Go.Proofs.YtcjklbhobmkalaaGreat.writeP
  split
  · rename_i h; exact ok.write h
  · exact ok
theorem FarP.write {P : Pg} {gs : List (List Int)} {N M m : Nat} (f : FarP P gs N M m) (n : Int) (b : Bs) : FarP (writeP P n b) gs N M (m + 1) := by
  obtain ⟨h1, h2, h3, h4⟩ := writeP_S (P := P) (n := n) (b := b)
  have := f.w; have := f.g; have := f.h; have := f.ms
  exact ⟨f.ok.writeP n b, by rw [h1]; exact f.size, by rw [h1]; exact f.len, by rw [h2]; exact f.most, by rw [h1]; omega, by rw [h1]; omega, by rw [h3]; omega, by rw [h4]; omega⟩
theorem FarP.abort {P : Pg} {gs : List (List Int)} {N M m : Nat} (f : FarP P gs N M m) : FarP (abortP P) gs N M (m + 1) := by
  have := f.w; have := f.g; have := f.h; have := f.ms
  exact ⟨f.ok.abort, f.size, f.len, f.most, by show P.S.W.length ≤ _; omega, by show P.S.groups ≤ _; omega, by show P.hits ≤ _; omega, by show P.misses ≤ _; omega⟩
theorem FarP.more {P : Pg} {gs : List (List Int)} {N M m k : Nat} (f : FarP P gs N M m) (hk : m ≤ k) : FarP P gs N M k := by
  have := f.w; have := f.g; have := f.h; have := f.ms
  exact ⟨f.ok, f.size, f.len, f.most, by omega, by omega, by omega, by omega⟩
structure Grown (S T : Lg) (n : Nat) : Prop where
  w1 : S.W.length ≤ T.W.length
  w2 : T.W.length ≤ S.W.length + n
  l : T.L.length = S.L.length
  g : T.groups ≤ S.groups + 1
theorem commit_grown {S : Lg} {ps : List (Int × Bs)} (hp : ps.length ≤ 100) : Grown S (commitS S ps) 102 := by
  unfold commitS; split
  · refine ⟨?_, ?_, (commitT_len S ps).1, by rw [commitT_groups]; omega⟩ <;> rw [(commitT_len S ps).2] <;> omega
  · exact ⟨Nat.le_refl _, Nat.le_add_right _ _, rfl, Nat.le_succ _⟩
theorem check_grown {S : Lg} {gs : List (List Int)} (i : LInv S gs) : Grown S (checkS S) 1025 ∧ (checkS S).groups = S.groups := by
  obtain ⟨h1, h2⟩ := check_W i
  refine ⟨⟨?_, h1, ?_, by omega⟩, h2⟩
  · unfold checkS; split
    · exact Nat.le_refl _
    · rw [(checkT_len S).2]; omega
  · unfold checkS; split
    · rfl
    · exact (checkT_len S).1
theorem com_grown {S : Lg} {gs : List (List Int)} (i : LInv S gs) {ps : List (Int × Bs)} (hp : ps.length ≤ 100) : Grown S (comS S ps) 1127 := by
  unfold comS; split
  · obtain ⟨h1, h2⟩ := check_grown i
    have h3 := commit_grown (S := checkS S) hp
    have := h1.w1; have := h1.w2; have := h1.l; have := h3.w1; have := h3.w2; have := h3.l; have := h3.g
    exact ⟨by omega, by omega, by omega, by omega⟩
  · have h3 := commit_grown (S := S) hp
    have := h3.w1; have := h3.w2; have := h3.l; have := h3.g
    exact ⟨by omega, by omega, by omega, by omega⟩
theorem FarP.com {P : Pg} {gs : List (List Int)} {N M m : Nat} (f : FarP P gs N M m) : ∃ gs', FarP (comP P) gs' N M (m + 1) := by
  obtain ⟨gs', ok'⟩ := f.ok.com
  have hg := com_grown f.ok.i (ps := P.dirty) f.ok.dl
  have h1 := hg.w2; have h2 := hg.l; have h3 := hg.g
  have := f.w; have := f.g; have := f.h; have := f.ms
  exact ⟨gs', ok', by show (comS P.S P.dirty).size = N; rw [com_size]; exact f.size, by show (comS P.S P.dirty).L.length = _; rw [h2]; exact f.len, f.most, by show (comS P.S P.dirty).W.length ≤ _; omega, by show (comS P.S P.dirty).groups ≤ _; omega, by show P.hits ≤ _; omega, by show P.misses ≤ _; omega⟩
/-! ### A page of any number is read -/
def pageI (P : Pg) (n : Int) : Bs := if lookE P n = 0 then P.page n.toNat else []
theorem pageI_len {P : Pg} {gs : List (List Int)} (ok : POk P gs) {n : Int} : (pageI P n).length ≤ 256 := by
  unfold pageI; split
  · rename_i h
    have := lookE_of h
    rw [ok.page_len (by omega)]; exact Nat.le_refl _
  · simp
theorem PReadI_spec {A : Ad} {P : Pg} {gs : List (List Int)} (ok : POk P gs) (h : sat E w (pgr A P * R)) {n : Int} (hh : P.hits ≤ 1000000) (hmi : P.misses ≤ 1000000)
    (k : ∀ v w', sat E w' (osl 5 1 v (pageI P n).length ((pageI P n).map bv) * (pgr A (readP P n) * R)) → K (.tuple #[v, .int .i64 (lookE P n)]) w') : Calls prog 14 #[.pointer (some ⟨A.q, 0, none⟩), .int .i64 n] w (Ret K) := by
  by_cases hl : lookE P n = 0
  · obtain ⟨h1, h2⟩ := lookE_of hl
    obtain ⟨n, rfl⟩ := Int.eq_ofNat_of_zero_le h1
    refine PRead_spec ok h (n := n) (by omega) hh hmi fun v w _ h => ?_
    have hp : pageI P (n : Int) = P.page n := by unfold pageI; rw [if_pos hl, Int.toNat_natCast]
    have k := k v w (by rw [hp, ok.page_len (by omega)]; exact h)
    rw [hl] at k
    exact k
  · have hb : n < 0 ∨ (P.S.pages : Int) ≤ n := by
      unfold lookE at hl
      by_cases h4 : n < 0 ∨ (P.S.pages : Int) ≤ n
      · exact h4
      · rw [if_neg h4] at hl; exact absurd rfl hl
    have he : lookE P n = 2 := by unfold lookE; rw [if_pos hb]
    refine PRead_bad ok h hb fun w h => ?_
    have hp : pageI P n = [] := by unfold pageI; rw [if_neg hl]
    have k := k (.slice none 0 0) w (by rw [hp, readP_bad hl]; exact osl_nil h 5 1)
    rw [he] at k
    exact k
/-! ### A deed of a slice writes -/
theorem wr_el {A : Ad} {P : Pg} {gs : List (List Int)} (ok : POk P gs) (h : sat E w (pgr A P * R)) {al : Option Addr} {cl : Nat} {l : List Dd} (hl : Rds R (.slice al l.length cl) l.length (l.flatMap dcells)) (hs : ∀ x ∈ l, OkD R x) {i : Nat} (hlt : i < l.length) (hm : l.length ≤ 9223372036854775807)
    {J : World → Prop} (k : ∀ w', sat E w' (pgr A (writeP P l[i].first l[i].row) * R) → J w') :
    dr w fun w =>
      pvv prog (Instr.indexAt 39 (.slice al l.length cl) (.int .i64 i)) w fun t_26 w =>
      pvv prog (Instr.indexAt 39 (.slice al l.length cl) (.int .i64 i)) w fun t_27 w =>
      bindS (vN (Instr.loadAt 24 t_26)) fun m_29 => ldv prog (Instr.loadAt 24 t_26) w fun t_28 w =>
      bindS (vN (Instr.loadAt 24 t_27)) fun m_31 => ldv prog (Instr.loadAt 24 t_27) w fun t_30 w =>
      Calls prog 13 #[t_28] w (Ret fun t_32 w => stay prog none m_31 t_30 w <|
      Calls prog 11 #[t_30] w (Ret fun t_33 w => stay prog none m_29 t_28 w <|
      Calls prog 12 #[.pointer (some ⟨A.q, 0, none⟩), t_32, t_33] w (Ret fun _ w => stay prog none m_31 t_30 w <| stay prog none m_29 t_28 w <| J w))) := by
  have hdl := dcells_length l
  have okx := hs _ (List.getElem_mem hlt)
  refine dr_sl h fun w h _ => ?_
  obtain ⟨b1, o1, rfl, _⟩ := win_cell (hl.right.win h) (j := i * 4) (by omega)
  rw [o_index (by omega) (by omega), o_index (by omega) (by omega)]
  simp only [Int.toNat_natCast, ↓o_nil, ↓o_field, ↓o_add, ↓o_sub, ↓o_mul, ↓o_lss, ↓o_leq, ↓o_gtr, ↓o_geq, ↓o_not, ↓o_pick, ↓o_eqInt, ↓o_neInt, ↓o_eqBool, ↓o_neBool, ↓o_eqPtr, ↓o_nePtr, ↓o_eqPtr', ↓o_eqSl, ↓o_neSl, ↓o_eqStr, ↓o_neStr, ↓o_len, ↓o_lenS, ↓o_min, ↓o_max, ↓o_extract, ↓o_convInt, ↓cd_true, ↓cd_false, ↓gate_tt, ↓gate_ff, ↓gate_tf, ↓gate_ft, ↓gate_undef, ↓o_bind, ↓stay_v, ↓pop_cons, ↓fin_nil, Option.isNone_none, Option.isNone_some, Bool.not_true, Bool.not_false, Nat.zero_add, decide_true, decide_false, if_true, if_false, Bool.false_eq_true, ↓reduceIte]
  have hrd : Rds (pgr A P * R) (.slice (some ⟨b1, o1, none⟩) l.length cl) l.length (l.flatMap dcells) := hl.right
  refine ld_el h hrd (i * 4) rfl (dcells l[i]) rfl (dd_at hlt) (ld_el h hrd (i * 4) rfl (dcells l[i]) rfl (dd_at hlt) ?_)
  refine first_spec h l[i] okx.right fun w h => ?_
  try simp only [stay_v]
  refine st_el h hrd (i * 4) rfl (dcells l[i]) rfl (dd_at hlt) ?_
  refine bytes_spec h l[i] fun bv0 w h => ?_
  try simp only [stay_v]
  refine st_el h hrd.right (i * 4) rfl (dcells l[i]) rfl (dd_at hlt) ?_
  have h := h.perm (star_left_comm _ _ _)
  refine PWrite_spec ok h (b := l[i].row) Rds.own (by have := l[i].row_len; omega) fun w h => ?_
  have h := (h.perm (star_left_comm _ _ _)).drop
  have hrd2 : Rds (pgr A (writeP P l[i].first l[i].row) * R) (.slice (some ⟨b1, o1, none⟩) l.length cl) l.length (l.flatMap dcells) := hl.right
  try simp only [stay_v]
  refine st_el h hrd2 (i * 4) rfl (dcells l[i]) rfl (dd_at hlt) (st_el h hrd2 (i * 4) rfl (dcells l[i]) rfl (dd_at hlt) ?_)
  exact k w h
end Go.Proofs.YtcjklbhobmkalaaGreat

/-
  Cuts of what a cache's commit writes. No program in sight.
-/
set_option linter.all false
set_option maxRecDepth 100000
namespace Go.Proofs.YtcjklbhobmkalaaGreat
open Go Hold
structure Ext (S T : Lg) : Prop where
  w : S.W.length ≤ T.W.length
  h : ∀ k, k ≤ S.W.length → hist T k = hist S k
theorem Ext.refl (S : Lg) : Ext S S := ⟨Nat.le_refl _, fun _ _ => rfl⟩
theorem Ext.put {S T : Lg} (e : Ext S T) {n : Nat} {l : Bs} (hn : n < T.L.length) : Ext S (wr T n l) :=
  ⟨by rw [wr_W]; have := e.w; omega, fun k hk => by rw [hist_wr T n l k hn (by have := e.w; omega)]; exact e.h k hk⟩
theorem Ext.same {S T U : Lg} (e : Ext S T) (h1 : U.L = T.L) (h2 : U.W = T.W) : Ext S U :=
  ⟨by rw [h2]; exact e.w, fun k hk => by have := e.h k hk; unfold hist at this ⊢; rw [h1, h2]; exact this⟩
theorem Ext.step {S : Lg} : ∀ (qs : List (Int × Bs)) (T : Lg) (u : Nat), Ext S T → u + qs.length ≤ T.L.length → Ext S (stepP T u qs)
  | [], T, u, e, _ => e
  | q :: qs, T, u, e, hl => by
    simp only [List.length_cons] at hl
    exact Ext.step qs (step1 T q u) (u + 1) ((e.put (n := u) (l := q.2) (by omega)).same rfl rfl) (by rw [show (step1 T q u).L.length = T.L.length from wr_len T u q.2]; omega)
theorem ext_commit {S : Lg} {gs : List (List Int)} (i : LInv S gs) (ps : List (Int × Bs)) : Ext S (commitS S ps) := by
  unfold commitS; split
  · rename_i hc
    have t := errC_zero hc.1 hc.2
    have h1 := t.fit; have h2 := i.sz; have h3 := t.n1
    rw [commitT_mid]
    refine Ext.put ?_ (by rw [(midT_len S ps).1]; omega)
    refine Ext.same (T := stepP (wr S (S.used + 1) (idx ((sortP ps).map (·.1)))) (S.used + 2) (sortP ps)) ?_ rfl rfl
    refine Ext.step _ _ _ ((Ext.refl S).put (by omega)) ?_
    rw [sortP_length, wr_len]; omega
  · exact Ext.refl S
/-- What is opened from a cut behind or within a commit. -/
structure Cutc (S T : Lg) (at_ : Nat) (C : Lg) (gs : List (List Int)) : Prop where
  i : LInv C gs
  w : C.W = []
  l : C.L = hist T at_
  size : C.size = S.size
  g : C.groups ≤ S.groups + 1
  all : C.all = S.all ∨ C.all = T.all
theorem cut_of {S T : Lg} {gs gs' : List (List Int)} (i : LInv S gs) (i' : LInv T gs') {k : Nat} (hg : T.groups ≤ S.groups + 1) (hsz : T.size = S.size) (h2 : k ≤ T.W.length) (hal : k < T.W.length → Alike S gs (hist T k)) : ∃ C gs2, Cutc S T k C gs2 := by
  by_cases hk : k = T.W.length
  · refine ⟨ofL T T.L, gs', i'.alike.inv i', rfl, ?_, hsz, hg, .inr i'.alike.all⟩
    rw [hk, hist_end]; rfl
  · have hal := hal (by omega)
    exact ⟨ofL S (hist T k), gs, hal.inv i, rfl, rfl, rfl, by show S.groups ≤ _; omega, .inl hal.all⟩
theorem check_all {S : Lg} {gs : List (List Int)} (i : LInv S gs) : (checkS S).all = S.all := by
  unfold checkS
  split
  · rfl
  · exact i.check_all
theorem cut_ck {S : Lg} {gs : List (List Int)} (i : LInv S gs) {k : Nat} (h1 : S.W.length ≤ k) (h2 : k ≤ (checkS S).W.length) : ∃ C gs2, Cutc S (checkS S) k C gs2 := by
  obtain ⟨gs', i'⟩ := i.checkS
  obtain ⟨hg, hg2⟩ := check_grown i
  refine cut_of i i' (by omega) (check_size S) h2 fun h3 => ?_
  unfold checkS at h3 ⊢
  split at h3
  · omega
  · rename_i hu
    rw [if_neg hu]
    exact i.cut_check h1 h3
theorem cut_cm {S : Lg} {gs : List (List Int)} (i : LInv S gs) {ps : List (Int × Bs)} (hp : ps.length ≤ 100) {k : Nat} (h1 : S.W.length ≤ k) (h2 : k ≤ (commitS S ps).W.length) : ∃ C gs2, Cutc S (commitS S ps) k C gs2 := by
  obtain ⟨gs', i'⟩ := i.commitS ps
  have hg := commit_grown (S := S) hp
  refine cut_of i i' hg.g (commit_size S ps) h2 fun h3 => ?_
  unfold commitS at h3 ⊢
  split at h3
  · rename_i he
    rw [if_pos he]
    exact i.cut_commit (errC_zero he.1 he.2) h1 h3
  · omega
theorem cut_com {S : Lg} {gs : List (List Int)} (i : LInv S gs) {ps : List (Int × Bs)} (hp : ps.length ≤ 100) {k : Nat} (h1 : S.W.length ≤ k) (h2 : k ≤ (comS S ps).W.length) : ∃ C gs2, Cutc S (comS S ps) k C gs2 := by
  unfold comS at h2 ⊢
  by_cases h7 : errC S ps = 7
  · rw [if_pos h7] at h2 ⊢
    obtain ⟨gs1, i1⟩ := i.checkS
    obtain ⟨hg, hg2⟩ := check_grown i
    have hx := ext_commit i1 ps
    by_cases hk : k ≤ (checkS S).W.length
    · obtain ⟨C, gs2, c⟩ := cut_ck i h1 hk
      refine ⟨C, gs2, c.i, c.w, by rw [c.l, hx.h k hk], c.size, c.g, .inl ?_⟩
      rcases c.all with h | h
      · exact h
      · rw [h, check_all i]
    · obtain ⟨C, gs2, c⟩ := cut_cm i1 hp (k := k) (by omega) h2
      refine ⟨C, gs2, c.i, c.w, c.l, by rw [c.size, check_size], by have := c.g; omega, ?_⟩
      rcases c.all with h | h
      · exact .inl (by rw [h, check_all i])
      · exact .inr h
  · rw [if_neg h7] at h2 ⊢
    exact cut_cm i hp h1 h2
/-- What was refused has changed no page. -/
theorem com_all {S : Lg} {gs : List (List Int)} (i : LInv S gs) {ps : List (Int × Bs)} (he : comE S ps ≠ 0) : (comS S ps).all = S.all := by
  unfold Lg.all
  rw [com_pages]
  exact List.map_congr_left fun n hn => by rw [i.com_view (List.mem_range.1 hn), if_neg he]
end Go.Proofs.YtcjklbhobmkalaaGreat

/-
  Rows of bytes compared.
-/
set_option linter.all false
set_option maxRecDepth 100000
namespace Go.Proofs.YtcjklbhobmkalaaGreat
open Go Hold
variable {E : World0} {w : World} {H R : HP} {K : Value → World → Prop}
/-- SameBytes. -/
theorem SameBytes_spec (h : sat E w H) {v u : Value} {l m : List UInt8} (hv : Rds H v l.length (l.map bv)) (hu : Rds H u m.length (m.map bv)) (hl : l.length ≤ 140737488355328)
    (k : ∀ w', sat E w' H → K (.bool (decide (l = m))) w') : Calls prog 15 #[v, u] w (Ret K) := by
  obtain ⟨a, c, rfl, hc, hv, ha⟩ := hv.shape h
  obtain ⟨a', c', rfl, hc', hu, ha'⟩ := hu.shape h
  refine c15 ?_
  unfold B15
  simp only [↓o_nil, ↓o_field, ↓o_add, ↓o_sub, ↓o_mul, ↓o_lss, ↓o_leq, ↓o_gtr, ↓o_geq, ↓o_not, ↓o_pick, ↓o_eqInt, ↓o_neInt, ↓o_eqBool, ↓o_neBool, ↓o_eqPtr, ↓o_nePtr, ↓o_eqPtr', ↓o_eqSl, ↓o_neSl, ↓o_eqStr, ↓o_neStr, ↓o_len, ↓o_lenS, ↓o_min, ↓o_max, ↓o_extract, ↓o_convInt, ↓cd_true, ↓cd_false, ↓gate_tt, ↓gate_ff, ↓gate_tf, ↓gate_ft, ↓gate_undef, ↓o_bind, ↓stay_v, ↓pop_cons, ↓fin_nil, Option.isNone_none, Option.isNone_some, Bool.not_true, Bool.not_false, Nat.zero_add, decide_true, decide_false, if_true, if_false, Bool.false_eq_true, ↓reduceIte]
  refine cd_dec' (fun he => ?_) (fun hne => ?_)
  · have he : l.length = m.length := by omega
    refine lp_nat (fun n σ w => ∃ i : Nat, σ = [.int .i64 i] ∧ n = l.length - i ∧ i ≤ l.length ∧ l.take i = m.take i ∧ sat E w H) l.length ⟨0, rfl, rfl, by omega, rfl, h⟩ ?_
    rintro n σ w again ⟨i, rfl, rfl, hi, heq, h⟩ hag
    simp only [↓o_nil, ↓o_field, ↓o_add, ↓o_sub, ↓o_mul, ↓o_lss, ↓o_leq, ↓o_gtr, ↓o_geq, ↓o_not, ↓o_pick, ↓o_eqInt, ↓o_neInt, ↓o_eqBool, ↓o_neBool, ↓o_eqPtr, ↓o_nePtr, ↓o_eqPtr', ↓o_eqSl, ↓o_neSl, ↓o_eqStr, ↓o_neStr, ↓o_len, ↓o_lenS, ↓o_min, ↓o_max, ↓o_extract, ↓o_convInt, ↓cd_true, ↓cd_false, ↓gate_tt, ↓gate_ff, ↓gate_tf, ↓gate_ft, ↓gate_undef, ↓o_bind, ↓stay_v, ↓pop_cons, ↓fin_nil, Option.isNone_none, Option.isNone_some, Bool.not_true, Bool.not_false, Nat.zero_add, decide_true, decide_false, if_true, if_false, Bool.false_eq_true, ↓reduceIte]
    refine cd_dec (fun hlt => ?_) (fun hge => ?_)
    · have hlt : i < l.length := by simpa using hlt
      refine dr_sl h fun w h _ => ?_
      obtain ⟨b, o, rfl, hb⟩ := win_cell (hv.win h) (j := i) (by simpa using hlt)
      obtain ⟨b', o', rfl, hb'⟩ := win_cell (hu.win h) (j := i) (by simp; omega)
      rw [o_index (by omega) (by omega), o_index (by omega) (by omega)]
      simp only [Int.toNat_natCast, Nat.mul_one]
      refine ld_cell hb ?_
      refine ld_cell hb' ?_
      simp only [List.getElem_map, bv, ↓o_nil, ↓o_field, ↓o_add, ↓o_sub, ↓o_mul, ↓o_lss, ↓o_leq, ↓o_gtr, ↓o_geq, ↓o_not, ↓o_pick, ↓o_eqInt, ↓o_neInt, ↓o_eqBool, ↓o_neBool, ↓o_eqPtr, ↓o_nePtr, ↓o_eqPtr', ↓o_eqSl, ↓o_neSl, ↓o_eqStr, ↓o_neStr, ↓o_len, ↓o_lenS, ↓o_min, ↓o_max, ↓o_extract, ↓o_convInt, ↓cd_true, ↓cd_false, ↓gate_tt, ↓gate_ff, ↓gate_tf, ↓gate_ft, ↓gate_undef, ↓o_bind, ↓stay_v, ↓pop_cons, ↓fin_nil, Option.isNone_none, Option.isNone_some, Bool.not_true, Bool.not_false, Nat.zero_add, decide_true, decide_false, if_true, if_false, Bool.false_eq_true, ↓reduceIte]
      refine cd_dec' (fun hx => ?_) (fun hx => ?_)
      · rw [i64_of (by omega) (by omega)]
        have hx' : l[i] = m[i] := UInt8.toNat_inj.1 (by omega)
        refine hag (l.length - (i + 1)) _ _ (by omega) ⟨i + 1, rfl, rfl, by omega, ?_, h⟩
        rw [List.take_succ_eq_append_getElem hlt, List.take_succ_eq_append_getElem (by omega), heq, hx']
      · have : ¬ l = m := by rintro rfl; exact hx rfl
        have := k w h
        simpa [*] using this
    · have hge : i = l.length := by omega
      subst hge
      have : l = m := by rw [List.take_length] at heq; rw [heq]; rw [he]; simp
      have hk := k w h
      simpa [this] using hk
  · have : ¬ l = m := by rintro rfl; exact hne rfl
    have hk := k w h
    simpa [this] using hk
theorem SameAll_spec (h : sat E w H) {v u : Value} {L M : List (List UInt8)} (hv : Rdd H v L) (hu : Rdd H u M) (hL : L.length ≤ 1000000) (hl : ∀ l ∈ L, l.length ≤ 140737488355328) (k : ∀ w', sat E w' H → K (.bool (decide (L = M))) w') :
    Calls prog 22 #[v, u] w (Ret K) := by
  obtain ⟨vs, hv, hvl, hva⟩ := hv
  obtain ⟨us, hu, hul, hua⟩ := hu
  obtain ⟨a, c, rfl, hc, hv, _⟩ := hv.shape h
  obtain ⟨a', c', rfl, hc', hu, _⟩ := hu.shape h
  refine c22 ?_
  unfold B22
  simp only [↓o_nil, ↓o_field, ↓o_add, ↓o_sub, ↓o_mul, ↓o_lss, ↓o_leq, ↓o_gtr, ↓o_geq, ↓o_not, ↓o_pick, ↓o_eqInt, ↓o_neInt, ↓o_eqBool, ↓o_neBool, ↓o_eqPtr, ↓o_nePtr, ↓o_eqPtr', ↓o_eqSl, ↓o_neSl, ↓o_eqStr, ↓o_neStr, ↓o_len, ↓o_lenS, ↓o_min, ↓o_max, ↓o_extract, ↓o_convInt, ↓cd_true, ↓cd_false, ↓gate_tt, ↓gate_ff, ↓gate_tf, ↓gate_ft, ↓gate_undef, ↓o_bind, ↓stay_v, ↓pop_cons, ↓fin_nil, Option.isNone_none, Option.isNone_some, Bool.not_true, Bool.not_false, Nat.zero_add, decide_true, decide_false, if_true, if_false, Bool.false_eq_true, ↓reduceIte]
  refine cd_dec' (fun he => ?_) (fun hne => ?_)
  · have he : L.length = M.length := by omega
    refine lp_nat (fun n σ w => ∃ i : Nat, σ = [.int .i64 i] ∧ n = L.length - i ∧ i ≤ L.length ∧ L.take i = M.take i ∧ sat E w H) L.length ⟨0, rfl, rfl, by omega, rfl, h⟩ ?_
    rintro n σ w again ⟨i, rfl, rfl, hi, heq, h⟩ hag
    simp only [↓o_nil, ↓o_field, ↓o_add, ↓o_sub, ↓o_mul, ↓o_lss, ↓o_leq, ↓o_gtr, ↓o_geq, ↓o_not, ↓o_pick, ↓o_eqInt, ↓o_neInt, ↓o_eqBool, ↓o_neBool, ↓o_eqPtr, ↓o_nePtr, ↓o_eqPtr', ↓o_eqSl, ↓o_neSl, ↓o_eqStr, ↓o_neStr, ↓o_len, ↓o_lenS, ↓o_min, ↓o_max, ↓o_extract, ↓o_convInt, ↓cd_true, ↓cd_false, ↓gate_tt, ↓gate_ff, ↓gate_tf, ↓gate_ft, ↓gate_undef, ↓o_bind, ↓stay_v, ↓pop_cons, ↓fin_nil, Option.isNone_none, Option.isNone_some, Bool.not_true, Bool.not_false, Nat.zero_add, decide_true, decide_false, if_true, if_false, Bool.false_eq_true, ↓reduceIte]
    refine cd_dec (fun hlt => ?_) (fun hge => ?_)
    · have hlt : i < L.length := by omega
      refine dr_sl h fun w h _ => ?_
      obtain ⟨b1, o1, rfl, hb1⟩ := win_cell (hv.win h) (j := i) (by omega)
      obtain ⟨b2, o2, rfl, hb2⟩ := win_cell (hu.win h) (j := i) (by omega)
      rw [o_index (by omega) (by omega)]
      simp only [Int.toNat_natCast, Nat.mul_one]
      rw [o_index (by omega) (by omega)]
      simp only [Int.toNat_natCast, Nat.mul_one]
      refine ld_cell hb1 ?_
      refine ld_cell hb2 ?_
      refine SameBytes_spec h (hva i vs[i] L[i] (List.getElem?_eq_getElem (by omega)) (List.getElem?_eq_getElem hlt)) (hua i us[i] M[i] (List.getElem?_eq_getElem (by omega)) (List.getElem?_eq_getElem (by omega))) (hl _ (List.getElem_mem _)) fun w h => ?_
      simp only [↓o_nil, ↓o_field, ↓o_add, ↓o_sub, ↓o_mul, ↓o_lss, ↓o_leq, ↓o_gtr, ↓o_geq, ↓o_not, ↓o_pick, ↓o_eqInt, ↓o_neInt, ↓o_eqBool, ↓o_neBool, ↓o_eqPtr, ↓o_nePtr, ↓o_eqPtr', ↓o_eqSl, ↓o_neSl, ↓o_eqStr, ↓o_neStr, ↓o_len, ↓o_lenS, ↓o_min, ↓o_max, ↓o_extract, ↓o_convInt, ↓cd_true, ↓cd_false, ↓gate_tt, ↓gate_ff, ↓gate_tf, ↓gate_ft, ↓gate_undef, ↓o_bind, ↓stay_v, ↓pop_cons, ↓fin_nil, Option.isNone_none, Option.isNone_some, Bool.not_true, Bool.not_false, Nat.zero_add, decide_true, decide_false, if_true, if_false, Bool.false_eq_true, ↓reduceIte]
      refine cd_dec' (fun he2 => ?_) (fun hne => ?_)
      · rw [i64_of (by omega) (by omega)]
        refine hag _ _ _ (by omega) ⟨i + 1, rfl, rfl, by omega, ?_, h⟩
        rw [List.take_succ_eq_append_getElem hlt, List.take_succ_eq_append_getElem (by omega), heq, he2]
      · have : L ≠ M := by rintro rfl; exact hne rfl
        have := k w h
        simpa [*] using this
    · have : L = M := by
        have hi2 : i = L.length := by omega
        rw [hi2, List.take_length, he, List.take_length] at heq
        exact heq
      subst this
      simpa using k w h
  · have : L ≠ M := by rintro rfl; exact hne rfl
    simpa [this] using k w h
end Go.Proofs.YtcjklbhobmkalaaGreat

/-
  A disk: cuts.
-/
set_option linter.all false
set_option maxRecDepth 100000
namespace Go.Proofs.YtcjklbhobmkalaaGreat
open Go Hold
variable {E : World0} {w : World} {H R : HP} {K : Value → World → Prop}
/-- The rounds of Backward. -/
theorem Back_spec (G : Nat → HP) {m : Nat} {us : List (Int × Value)} (hm : us.length = m) (hm2 : m ≤ 1000000) {x : Nat} {sv y : Value} (h : sat E w (G m))
    (hG : ∀ j {w : World}, sat E w (G j) → w.heap[x]? = some (.cells #[sv] 99 (0, 0))) (hr : ∀ j, Rds (G j) sv m (wcells us))
    (hy : ∀ (j : Nat) (hj : j < m) (w : World) (K' : Value → World → Prop), sat E w (G (j + 1)) → (∀ w', sat E w' (G j) → K' (.bool true) w') → ef prog (oCall y #[.int .i64 j, .agg #[.int .i64 (us[j]'(by omega)).1, (us[j]'(by omega)).2]]) w K')
    (k : ∀ w', sat E w' (G 0) → K (.tuple #[]) w') : Calls prog 88 #[y, .pointer (some ⟨x, 0, none⟩)] w (Ret K) := by
  have hr0 := hr
  obtain ⟨a, c, rfl, hc, _, ha⟩ := (hr m).shape h
  refine c88 ?_
  unfold B88
  refine ld_cell (v := .slice a m c) (cell_of (hG m h) rfl) ?_
  simp only [↓o_nil, ↓o_field, ↓o_add, ↓o_sub, ↓o_mul, ↓o_lss, ↓o_leq, ↓o_gtr, ↓o_geq, ↓o_not, ↓o_pick, ↓o_eqInt, ↓o_neInt, ↓o_eqBool, ↓o_neBool, ↓o_eqPtr, ↓o_nePtr, ↓o_eqPtr', ↓o_eqSl, ↓o_neSl, ↓o_eqStr, ↓o_neStr, ↓o_len, ↓o_lenS, ↓o_min, ↓o_max, ↓o_extract, ↓o_convInt, ↓cd_true, ↓cd_false, ↓gate_tt, ↓gate_ff, ↓gate_tf, ↓gate_ft, ↓gate_undef, ↓o_bind, ↓stay_v, ↓pop_cons, ↓fin_nil, Option.isNone_none, Option.isNone_some, Bool.not_true, Bool.not_false, Nat.zero_add, decide_true, decide_false, if_true, if_false, Bool.false_eq_true, ↓reduceIte]
  refine lp_nat (fun n σ w => σ = [.int .i64 ((n : Int) - 1)] ∧ n ≤ m ∧ sat E w (G n)) m ⟨?_, Nat.le_refl _, h⟩ ?_
  · rw [i64_of (by omega) (by omega)]
  · rintro n σ w again ⟨rfl, hn, h⟩ hag
    simp only [↓o_nil, ↓o_field, ↓o_add, ↓o_sub, ↓o_mul, ↓o_lss, ↓o_leq, ↓o_gtr, ↓o_geq, ↓o_not, ↓o_pick, ↓o_eqInt, ↓o_neInt, ↓o_eqBool, ↓o_neBool, ↓o_eqPtr, ↓o_nePtr, ↓o_eqPtr', ↓o_eqSl, ↓o_neSl, ↓o_eqStr, ↓o_neStr, ↓o_len, ↓o_lenS, ↓o_min, ↓o_max, ↓o_extract, ↓o_convInt, ↓cd_true, ↓cd_false, ↓gate_tt, ↓gate_ff, ↓gate_tf, ↓gate_ft, ↓gate_undef, ↓o_bind, ↓stay_v, ↓pop_cons, ↓fin_nil, Option.isNone_none, Option.isNone_some, Bool.not_true, Bool.not_false, Nat.zero_add, decide_true, decide_false, if_true, if_false, Bool.false_eq_true, ↓reduceIte]
    refine cd_dec (fun hlt => ?_) (fun hge => ?_)
    · obtain ⟨j, rfl⟩ : ∃ j, n = j + 1 := ⟨n - 1, by omega⟩
      have e : ((j + 1 : Nat) : Int) - 1 = (j : Int) := by omega
      rw [e]
      have hlen := wcells_length us
      refine ld_cell (v := .slice a m c) (cell_of (hG _ h) rfl) ?_
      have hwin := (hr (j + 1)).win h
      obtain ⟨b, o, rfl, _⟩ := win_cell hwin (j := j * 2) (by omega)
      rw [o_index (by omega) (by omega)]
      simp only [Int.toNat_natCast]
      obtain ⟨g1, g2⟩ := wcells_get us j (by omega)
      have h1 := hwin.cell b o rfl _ _ g1
      have h2 := hwin.cell b o rfl _ _ g2
      refine ldv_of (run_loadN (n := 2) (cs := [.int .i64 us[j].1, us[j].2]) rfl ?_) ?_
      · intro i v hi
        match i, hi with
        | 0, hi => simp at hi; subst hi; exact h1
        | 1, hi => simp at hi; subst hi; exact h2
        | i + 2, hi => simp at hi
      refine hy j (by omega) w _ h fun w' h' => ?_
      simp only [↓o_nil, ↓o_field, ↓o_add, ↓o_sub, ↓o_mul, ↓o_lss, ↓o_leq, ↓o_gtr, ↓o_geq, ↓o_not, ↓o_pick, ↓o_eqInt, ↓o_neInt, ↓o_eqBool, ↓o_neBool, ↓o_eqPtr, ↓o_nePtr, ↓o_eqPtr', ↓o_eqSl, ↓o_neSl, ↓o_eqStr, ↓o_neStr, ↓o_len, ↓o_lenS, ↓o_min, ↓o_max, ↓o_extract, ↓o_convInt, ↓cd_true, ↓cd_false, ↓gate_tt, ↓gate_ff, ↓gate_tf, ↓gate_ft, ↓gate_undef, ↓o_bind, ↓stay_v, ↓pop_cons, ↓fin_nil, Option.isNone_none, Option.isNone_some, Bool.not_true, Bool.not_false, Nat.zero_add, decide_true, decide_false, if_true, if_false, Bool.false_eq_true, ↓reduceIte]
      rw [i64_of (by omega) (by omega)]
      exact hag j _ _ (by omega) ⟨rfl, by omega, h'⟩
    · have : n = 0 := by omega
      subst this
      exact k w h
theorem Cut_nil {n : Value} (k : K (.tuple #[.pointer none, .int .i64 1]) w) : Calls prog 27 #[.pointer none, n] w (Ret K) := by
  refine c27 ?_
  unfold B27
  simp only [↓o_nil, ↓o_field, ↓o_add, ↓o_sub, ↓o_mul, ↓o_lss, ↓o_leq, ↓o_gtr, ↓o_geq, ↓o_not, ↓o_pick, ↓o_eqInt, ↓o_neInt, ↓o_eqBool, ↓o_neBool, ↓o_eqPtr, ↓o_nePtr, ↓o_eqPtr', ↓o_eqSl, ↓o_neSl, ↓o_eqStr, ↓o_neStr, ↓o_len, ↓o_lenS, ↓o_min, ↓o_max, ↓o_extract, ↓o_convInt, ↓cd_true, ↓cd_false, ↓gate_tt, ↓gate_ff, ↓gate_tf, ↓gate_ft, ↓gate_undef, ↓o_bind, ↓stay_v, ↓pop_cons, ↓fin_nil, Option.isNone_none, Option.isNone_some, Bool.not_true, Bool.not_false, Nat.zero_add, decide_true, decide_false, if_true, if_false, Bool.false_eq_true, ↓reduceIte]
  exact k
theorem Cut_range {d : Nat} {L : List (List UInt8)} {W : List (Int × List UInt8)} (h : sat E w H) [s : DskS H d L W R] {n : Int} (hn : n < 0 ∨ (W.length : Int) < n)
    (k : K (.tuple #[.pointer none, .int .i64 2]) w) : Calls prog 27 #[.pointer (some ⟨d, 0, none⟩), .int .i64 n] w (Ret K) := by
  obtain ⟨lv, vs, wv, ws, e, hd⟩ := sat_dsk.1 (h.dsks d)
  obtain ⟨a, c, rfl, hc, hl, ha⟩ := osl_shape hd.drop.drop
  refine c27 ?_
  unfold B27
  by_cases h1 : n < 0
  · simp only [↓o_nil, ↓o_field, ↓o_add, ↓o_sub, ↓o_mul, ↓o_lss, ↓o_leq, ↓o_gtr, ↓o_geq, ↓o_not, ↓o_pick, ↓o_eqInt, ↓o_neInt, ↓o_eqBool, ↓o_neBool, ↓o_eqPtr, ↓o_nePtr, ↓o_eqPtr', ↓o_eqSl, ↓o_neSl, ↓o_eqStr, ↓o_neStr, ↓o_len, ↓o_lenS, ↓o_min, ↓o_max, ↓o_extract, ↓o_convInt, ↓cd_true, ↓cd_false, ↓gate_tt, ↓gate_ff, ↓gate_tf, ↓gate_ft, ↓gate_undef, ↓o_bind, ↓stay_v, ↓pop_cons, ↓fin_nil, Option.isNone_none, Option.isNone_some, Bool.not_true, Bool.not_false, Nat.zero_add, decide_true, decide_false, if_true, if_false, Bool.false_eq_true, ↓reduceIte, h1]; exact k
  · have h2 : (W.length : Int) < n := by omega
    simp only [↓o_nil, ↓o_field, ↓o_add, ↓o_sub, ↓o_mul, ↓o_lss, ↓o_leq, ↓o_gtr, ↓o_geq, ↓o_not, ↓o_pick, ↓o_eqInt, ↓o_neInt, ↓o_eqBool, ↓o_neBool, ↓o_eqPtr, ↓o_nePtr, ↓o_eqPtr', ↓o_eqSl, ↓o_neSl, ↓o_eqStr, ↓o_neStr, ↓o_len, ↓o_lenS, ↓o_min, ↓o_max, ↓o_extract, ↓o_convInt, ↓cd_true, ↓cd_false, ↓gate_tt, ↓gate_ff, ↓gate_tf, ↓gate_ft, ↓gate_undef, ↓o_bind, ↓stay_v, ↓pop_cons, ↓fin_nil, Option.isNone_none, Option.isNone_some, Bool.not_true, Bool.not_false, Nat.zero_add, decide_true, decide_false, if_true, if_false, Bool.false_eq_true, ↓reduceIte, h1]
    refine ld_at hd ?_
    simp only [↓o_nil, ↓o_field, ↓o_add, ↓o_sub, ↓o_mul, ↓o_lss, ↓o_leq, ↓o_gtr, ↓o_geq, ↓o_not, ↓o_pick, ↓o_eqInt, ↓o_neInt, ↓o_eqBool, ↓o_neBool, ↓o_eqPtr, ↓o_nePtr, ↓o_eqPtr', ↓o_eqSl, ↓o_neSl, ↓o_eqStr, ↓o_neStr, ↓o_len, ↓o_lenS, ↓o_min, ↓o_max, ↓o_extract, ↓o_convInt, ↓cd_true, ↓cd_false, ↓gate_tt, ↓gate_ff, ↓gate_tf, ↓gate_ft, ↓gate_undef, ↓o_bind, ↓stay_v, ↓pop_cons, ↓fin_nil, Option.isNone_none, Option.isNone_some, Bool.not_true, Bool.not_false, Nat.zero_add, decide_true, decide_false, if_true, if_false, Bool.false_eq_true, ↓reduceIte, h2]
    exact k
theorem Cut_spec {d : Nat} {L : List (List UInt8)} {W : List (Int × List UInt8)} (h : sat E w H) [s : DskS H d L W R] (wf : Wf L W) (hW : W.length ≤ 1000000) {n : Nat} (hn : n ≤ W.length)
    (k : ∀ d' w', sat E w' (dsk d' (undo L (W.drop n)) [] * (dsk d L W * R)) → K (.tuple #[.pointer (some ⟨d', 0, none⟩), .int .i64 0]) w') : Calls prog 27 #[.pointer (some ⟨d, 0, none⟩), .int .i64 n] w (Ret K) := by
  obtain ⟨lv, vs, wv, ws, e, hd⟩ := sat_dsk.1 (h.dsks d)
  have hL2 : ws.length = W.length := by simpa using hd.drop.drop.drop.drop.pers_get.1
  obtain ⟨a, c, rfl, hc, hl, ha⟩ := osl_shape hd.drop.drop
  refine c27 ?_
  unfold B27
  have h1 : ¬ (n : Int) < 0 := by omega
  have h2 : ¬ (W.length : Int) < n := by omega
  simp only [↓o_nil, ↓o_field, ↓o_add, ↓o_sub, ↓o_mul, ↓o_lss, ↓o_leq, ↓o_gtr, ↓o_geq, ↓o_not, ↓o_pick, ↓o_eqInt, ↓o_neInt, ↓o_eqBool, ↓o_neBool, ↓o_eqPtr, ↓o_nePtr, ↓o_eqPtr', ↓o_eqSl, ↓o_neSl, ↓o_eqStr, ↓o_neStr, ↓o_len, ↓o_lenS, ↓o_min, ↓o_max, ↓o_extract, ↓o_convInt, ↓cd_true, ↓cd_false, ↓gate_tt, ↓gate_ff, ↓gate_tf, ↓gate_ft, ↓gate_undef, ↓o_bind, ↓stay_v, ↓pop_cons, ↓fin_nil, Option.isNone_none, Option.isNone_some, Bool.not_true, Bool.not_false, Nat.zero_add, decide_true, decide_false, if_true, if_false, Bool.false_eq_true, ↓reduceIte, h1]
  refine ld_at hd ?_
  simp only [↓o_nil, ↓o_field, ↓o_add, ↓o_sub, ↓o_mul, ↓o_lss, ↓o_leq, ↓o_gtr, ↓o_geq, ↓o_not, ↓o_pick, ↓o_eqInt, ↓o_neInt, ↓o_eqBool, ↓o_neBool, ↓o_eqPtr, ↓o_nePtr, ↓o_eqPtr', ↓o_eqSl, ↓o_neSl, ↓o_eqStr, ↓o_neStr, ↓o_len, ↓o_lenS, ↓o_min, ↓o_max, ↓o_extract, ↓o_convInt, ↓cd_true, ↓cd_false, ↓gate_tt, ↓gate_ff, ↓gate_tf, ↓gate_ft, ↓gate_undef, ↓o_bind, ↓stay_v, ↓pop_cons, ↓fin_nil, Option.isNone_none, Option.isNone_some, Bool.not_true, Bool.not_false, Nat.zero_add, decide_true, decide_false, if_true, if_false, Bool.false_eq_true, ↓reduceIte, h2]
  refine ld_at hd ?_
  refine copied_spec hd (rdd_of hd) wf.le (fun l hl => by rw [wf.l l hl]; omega) fun ov vs' w _ hd => ?_
  obtain ⟨ao, co, rfl, hco, hol, hoa⟩ := osl_shape hd
  refine alloc_sl hd fun ob w hd => ?_
  refine store_at hd (xs := [_]) rfl (by simp) fun w hd => ?_
  refine ld_at hd ?_
  rw [o_slice_l (by omega) (by omega)]
  simp only [Int.toNat_natCast]
  refine c52 ?_
  unfold B52
  refine box_sl hd fun xb w hd => ?_
  refine pvv_of (v := .func (.func 88) #[] #[.pointer (some ⟨xb, 0, none⟩)]) (fun _ => rfl) ?_
  refine rng_body hd Tryz.func88 (by kernel_rfl) (by kernel_rfl) fun rec D D1 w hd hround => ?_
  refine Back_spec (E := E) (fun j => (pts D1 (rec .ready none) * (pts D (.deferred (some [])) * (pts xb (.cells #[.slice (cutA a c n 2) (W.length - n) (c - n)] 99 (0, 0)) * (pts ob (.cells [Value.slice ao L.length co].toArray 40 (0, 0)) *
    (pts d (.cells [lv, .slice a W.length c, .int .i64 W.length].toArray 101 (0, 0)) * (osl 30 1 lv L.length vs * (osl 108 2 (.slice a W.length c) W.length (wcells ws) * (pers (immAll vs L) * (pers (immAll (ws.map (·.2)) (W.map (·.2))) * R))))))))) *
    ex fun us => osl 30 1 (.slice ao L.length co) L.length us * pers (immAll us (undo L ((W.drop n).drop j)))) (m := W.length - n) (us := ws.drop n) (by simp [hL2]) (by omega) (x := xb) (sv := .slice (cutA a c n 2) (W.length - n) (c - n)) ?_ ?_ ?_ ?_ ?_
  · rw [star_ex]
    refine sat_ex.2 ⟨vs', ?_⟩
    have : (W.drop n).drop (W.length - n) = [] := by simp; omega
    rw [this]
    exact hd.perm (by simp only [Value.cells]; ac_rfl)
  · intro j w h
    exact h.has
  · intro j E w h
    have hw := osl_rd (h.owns (.slice a W.length c))
    obtain ⟨a', c', e, hc', hw⟩ := hw
    cases e
    refine ⟨_, _, rfl, by omega, ?_⟩
    rw [wcells_drop]
    exact win_cut hw (fun hcn => by rw [wcells_length]; omega)
  · intro j hj w K' h hk
    rw [star_ex] at h
    obtain ⟨us, h⟩ := sat_ex.1 h
    have hj1 : n + j < ws.length := by omega
    have hj2 : n + j < W.length := by omega
    have e1 : (ws.drop n)[j]'(by simp; omega) = ws[n + j] := by simp
    have e2 : ws[n + j].1 = W[n + j].1 := by
      have := congrArg (fun l => l[n + j]?) e
      simp only [List.getElem?_map, List.getElem?_eq_getElem hj1, List.getElem?_eq_getElem hj2, Option.map_some, Option.some.injEq] at this
      exact this
    obtain ⟨w1, w2, w3⟩ := wf.w W[n + j] (List.getElem_mem hj2)
    have hrd : Rds (pers (immAll (ws.map (·.2)) (W.map (·.2)))) ws[n + j].2 W[n + j].2.length (W[n + j].2.map bv) :=
      immAll_rds (i := n + j) (by simp [List.getElem?_eq_getElem hj1]) (by simp [List.getElem?_eq_getElem hj2])
    obtain ⟨a2, c2, e3, hc2, hrd, _⟩ := hrd.shape (h.split (pers (immAll (ws.map (·.2)) (W.map (·.2))))).drop'
    obtain ⟨p, hp⟩ := Int.eq_ofNat_of_zero_le w1
    rw [e1, e2, e3, hp]
    have hpl : p < L.length := by omega
    refine hround [.int .i64 j, .agg #[.int .i64 p, .slice a2 W[n + j].2.length c2]] w K' rfl h.has ?_
    simp only [↓o_nil, ↓o_field, ↓o_add, ↓o_sub, ↓o_mul, ↓o_lss, ↓o_leq, ↓o_gtr, ↓o_geq, ↓o_not, ↓o_pick, ↓o_eqInt, ↓o_neInt, ↓o_eqBool, ↓o_neBool, ↓o_eqPtr, ↓o_nePtr, ↓o_eqPtr', ↓o_eqSl, ↓o_neSl, ↓o_eqStr, ↓o_neStr, ↓o_len, ↓o_lenS, ↓o_min, ↓o_max, ↓o_extract, ↓o_convInt, ↓cd_true, ↓cd_false, ↓gate_tt, ↓gate_ff, ↓gate_tf, ↓gate_ft, ↓gate_undef, ↓o_bind, ↓stay_v, ↓pop_cons, ↓fin_nil, Option.isNone_none, Option.isNone_some, Bool.not_true, Bool.not_false, Nat.zero_add, decide_true, decide_false, if_true, if_false, Bool.false_eq_true, ↓reduceIte]
    refine alloc_sl h fun wb w h => ?_
    have h : sat E w (pts wb (.cells [Value.int .i64 0, .slice none 0 0].toArray 108 (0, 0)) * _) := h
    refine storeN_sl (n := 2) h (by kernel_rfl) (vs := [.int .i64 p, .slice a2 W[n + j].2.length c2]) rfl rfl (by simp [Value.oneCell']) (by simp) fun w h => ?_
    simp only [List.take_zero, List.nil_append, List.length_cons, List.length_nil, List.drop_succ_cons, List.drop_zero, List.append_nil, Nat.zero_add] at h
    refine ⟨h.has, ?_⟩
    have h := (h.own D1).set (rec .busy none)
    refine dr_sl h fun w h _ => ?_
    simp only [↓o_nil, ↓o_field, ↓o_add, ↓o_sub, ↓o_mul, ↓o_lss, ↓o_leq, ↓o_gtr, ↓o_geq, ↓o_not, ↓o_pick, ↓o_eqInt, ↓o_neInt, ↓o_eqBool, ↓o_neBool, ↓o_eqPtr, ↓o_nePtr, ↓o_eqPtr', ↓o_eqSl, ↓o_neSl, ↓o_eqStr, ↓o_neStr, ↓o_len, ↓o_lenS, ↓o_min, ↓o_max, ↓o_extract, ↓o_convInt, ↓cd_true, ↓cd_false, ↓gate_tt, ↓gate_ff, ↓gate_tf, ↓gate_ft, ↓gate_undef, ↓o_bind, ↓stay_v, ↓pop_cons, ↓fin_nil, Option.isNone_none, Option.isNone_some, Bool.not_true, Bool.not_false, Nat.zero_add, decide_true, decide_false, if_true, if_false, Bool.false_eq_true, ↓reduceIte]
    refine ld_at h ?_
    refine ld_at h ?_
    refine ld_at h ?_
    refine Clone_spec h (v := .slice a2 W[n + j].2.length c2) (l := W[n + j].2) (Rds.under hrd) (by omega) fun v5 w h => ?_
    have h := osl_freeze h
    obtain ⟨a5, c5, rfl, hc5, _⟩ := h.pers_get
    refine st_at h ?_
    refine st_at h ?_
    obtain ⟨ob2, rfl⟩ := hoa (by omega)
    rw [o_index (by omega) (by omega)]
    simp only [Int.toNat_natCast, Nat.mul_one, Nat.zero_add]
    refine osl_store h (c := co) hpl rfl fun w h => ?_
    refine ⟨h.has, hk _ ?_⟩
    have h := (h.own D1).set (rec .ready none)
    rw [star_ex]
    refine sat_ex.2 ⟨us.set p (.slice a5 W[n + j].2.length c5), ?_⟩
    have eu : undo L ((W.drop n).drop j) = (undo L ((W.drop n).drop (j + 1))).set p W[n + j].2 := by
      have : (W.drop n).drop j = W[n + j] :: (W.drop n).drop (j + 1) := by
        rw [List.drop_drop, List.drop_drop, List.drop_eq_getElem_cons hj2]; rfl
      rw [this]
      simp [undo, hp]
    rw [eu]
    have h := sat_imp2 (h.lose wb) (immS (.slice a5 W[n + j].2.length c5) W[n + j].2.length (W[n + j].2.map bv)) (immAll us (undo L ((W.drop n).drop (j + 1))))
      (χ := immAll (us.set p (.slice a5 W[n + j].2.length c5)) ((undo L ((W.drop n).drop (j + 1))).set p W[n + j].2)) (fun I h1 h2 => immAll_set h2 h1)
    exact h.perm (by ac_rfl)
  · intro w h
    rw [star_ex] at h
    obtain ⟨us, h⟩ := sat_ex.1 h
    refine ⟨.ready, none, h.has, by simp, ?_⟩
    have h := (h.own D1).set (rec .exhausted none)
    simp only [jump]
    refine ld_at h ?_
    refine pvv_of (v := .agg #[.slice ao L.length co, .slice none 0 0, .int .i64 0]) (fun _ => by kernel_rfl) ?_
    refine box_sl h fun d2 w h => ?_
    have h : sat E w (pts d2 (.cells [Value.slice ao L.length co, .slice none 0 0, .int .i64 0].toArray 101 (0, 0)) * _) := h
    refine ⟨h.has, ?_⟩
    have h := (h.own D).set (.deferred none)
    refine k d2 _ ?_
    simp only [List.drop_zero] at h
    have h := dsk_shut d L W e (h.lose ob)
    have h := osl_nil h 108 2
    have h : sat E _ (pers (immAll (List.map (·.2) ([] : List (Int × Value))) (List.map (·.2) ([] : List (Int × List UInt8)))) * _) := immAll_nil h
    have h := dsk_shut' (lv := .slice ao L.length co) (wv := .slice none 0 0) (vs := us) (ws := []) d2 (undo L (W.drop n)) [] (undo_length L _).symm rfl h
    exact ((h.lose D).lose D1).lose xb
end Go.Proofs.YtcjklbhobmkalaaGreat

/-
  Bytes of one's own are written over; pages behind reads and writes.
-/
set_option linter.all false
set_option maxRecDepth 100000
namespace Go.Proofs.YtcjklbhobmkalaaGreat
open Go Hold
variable {E : World0} {w : World} {H R X : HP} {K : Value → World → Prop}
theorem fill_spec {v : Value} {n : Nat} {xs : List Value} (h : sat E w (osl 5 1 v n xs * R)) (hn : n ≤ 1000) (c : Int) {J : World → Prop} (k : ∀ w' ys, sat E w' (osl 5 1 v n ys * R) → J w') :
    lp (fun σ w again => pop σ fun i σ => fin σ <|
      pv prog (oBi .len #[30] 3 #[false] #[v]) w fun t_17 w =>
      pvv prog (binOp .lss 3 i t_17) w fun t_18 w =>
      cd t_18 (
        pvv prog (Instr.indexAt 30 v i) w fun t_19 w =>
        efu prog (Instr.storeAt 5 t_19 (.int .u8 c)) w fun _ w =>
        pvv prog (binOp .add 3 i (.int .i64 1)) w fun t_21 w =>
        again [t_21] w) <| J w) [(.int .i64 0)] w := by
  obtain ⟨a, cp, rfl, hc, hl, ha⟩ := osl_shape h
  refine lp_nat (fun q σ w => ∃ (i : Nat) (ys : List Value), σ = [.int .i64 i] ∧ q = n - i ∧ i ≤ n ∧ sat E w (osl 5 1 (.slice a n cp) n ys * R)) n ⟨0, xs, rfl, rfl, by omega, h⟩ ?_
  clear h
  rintro q σ w again ⟨i, ys, rfl, rfl, hi, h⟩ hag
  try simp only [↓o_nil, ↓o_field, ↓o_add, ↓o_sub, ↓o_mul, ↓o_lss, ↓o_leq, ↓o_gtr, ↓o_geq, ↓o_not, ↓o_pick, ↓o_eqInt, ↓o_neInt, ↓o_eqBool, ↓o_neBool, ↓o_eqPtr, ↓o_nePtr, ↓o_eqPtr', ↓o_eqSl, ↓o_neSl, ↓o_eqStr, ↓o_neStr, ↓o_len, ↓o_lenS, ↓o_min, ↓o_max, ↓o_extract, ↓o_convInt, ↓cd_true, ↓cd_false, ↓gate_tt, ↓gate_ff, ↓gate_tf, ↓gate_ft, ↓gate_undef, ↓o_bind, ↓stay_v, ↓pop_cons, ↓fin_nil, Option.isNone_none, Option.isNone_some, Bool.not_true, Bool.not_false, Nat.zero_add, decide_true, decide_false, if_true, if_false, Bool.false_eq_true, ↓reduceIte]
  refine cd_dec (fun hlt => ?_) (fun hge => k w ys h)
  have hlt : i < n := by omega
  obtain ⟨b, rfl⟩ := ha (by omega)
  rw [o_index (by omega) (by omega)]
  simp only [Int.toNat_natCast, Nat.mul_one, Nat.zero_add]
  refine osl_store (b := b) (n := n) (c := cp) (e := 5) (xs := ys) (R := R) (t := 5) h hlt rfl fun w h => ?_
  try simp only [↓o_nil, ↓o_field, ↓o_add, ↓o_sub, ↓o_mul, ↓o_lss, ↓o_leq, ↓o_gtr, ↓o_geq, ↓o_not, ↓o_pick, ↓o_eqInt, ↓o_neInt, ↓o_eqBool, ↓o_neBool, ↓o_eqPtr, ↓o_nePtr, ↓o_eqPtr', ↓o_eqSl, ↓o_neSl, ↓o_eqStr, ↓o_neStr, ↓o_len, ↓o_lenS, ↓o_min, ↓o_max, ↓o_extract, ↓o_convInt, ↓cd_true, ↓cd_false, ↓gate_tt, ↓gate_ff, ↓gate_tf, ↓gate_ft, ↓gate_undef, ↓o_bind, ↓stay_v, ↓pop_cons, ↓fin_nil, Option.isNone_none, Option.isNone_some, Bool.not_true, Bool.not_false, Nat.zero_add, decide_true, decide_false, if_true, if_false, Bool.false_eq_true, ↓reduceIte]
  rw [i64_of (by omega) (by omega)]
  exact hag (n - (i + 1)) _ _ (by omega) ⟨i + 1, _, rfl, rfl, by omega, h⟩
theorem wr_el2 {A : Ad} {P : Pg} {gs : List (List Int)} (ok : POk P gs) (h : sat E w (pgr A P * R)) {al : Option Addr} {cl : Nat} {l : List Dd} (hl : Rds R (.slice al l.length cl) l.length (l.flatMap dcells)) (hs : ∀ x ∈ l, OkD R x) {i : Nat} (hlt : i < l.length) (hm : l.length ≤ 9223372036854775807)
    {J : World → Prop} (k : ∀ w', sat E w' (pgr A (writeP P l[i].first l[i].row) * R) → J w') :
    dr w fun w =>
      pvv prog (Instr.indexAt 39 (.slice al l.length cl) (.int .i64 i)) w fun t_26 w =>
      pvv prog (Instr.indexAt 39 (.slice al l.length cl) (.int .i64 i)) w fun t_27 w =>
      ldv prog (Instr.loadAt 24 t_26) w fun t_28 w =>
      ldv prog (Instr.loadAt 24 t_27) w fun t_30 w =>
      Calls prog 13 #[t_28] w (Ret fun t_32 w => stv prog none (Instr.loadAt 24 t_27) t_30 w <|
      Calls prog 11 #[t_30] w (Ret fun t_33 w => stv prog none (Instr.loadAt 24 t_26) t_28 w <|
      Calls prog 12 #[.pointer (some ⟨A.q, 0, none⟩), t_32, t_33] w (Ret fun _ w => stv prog none (Instr.loadAt 24 t_27) t_30 w <| stv prog none (Instr.loadAt 24 t_26) t_28 w <| J w))) :=
  wr_el ok h hl hs hlt hm k
/-- All pages of a log. -/
theorem All_spec {p d b : Nat} {S : Lg} {gs : List (List Int)} (i : LInv S gs) (h : sat E w (lgI p d b S R)) (hp : S.pages ≤ 100)
    (k : ∀ v vs w', sat E w' (osl 30 1 v S.all.length vs * (pers (immAll vs S.all) * lgI p d b S R)) → K v w') : Calls prog 16 #[.pointer (some ⟨p, 0, none⟩)] w (Ret K) := by
  have hsz := i.sz; have hle := i.wf.le
  have hall := all_len S
  refine c16 ?_
  unfold B16
  refine lp_nat (fun q σ w => ∃ (n : Nat) (v : Value) (vs : List Value), σ = [v, .int .i64 n] ∧ q = S.pages - n ∧ n ≤ S.pages ∧ sat E w (osl 30 1 v n vs * (pers (immAll vs (S.all.take n)) * lgI p d b S R))) S.pages ⟨0, .slice none 0 0, [], rfl, rfl, by omega, ?_⟩ ?_
  · exact osl_nil (immAll_nil h) 30 1
  clear h
  rintro q σ w again ⟨n, v, vs, rfl, rfl, hn, h⟩ hag
  try simp only [↓o_nil, ↓o_field, ↓o_add, ↓o_sub, ↓o_mul, ↓o_lss, ↓o_leq, ↓o_gtr, ↓o_geq, ↓o_not, ↓o_pick, ↓o_eqInt, ↓o_neInt, ↓o_eqBool, ↓o_neBool, ↓o_eqPtr, ↓o_nePtr, ↓o_eqPtr', ↓o_eqSl, ↓o_neSl, ↓o_eqStr, ↓o_neStr, ↓o_len, ↓o_lenS, ↓o_min, ↓o_max, ↓o_extract, ↓o_convInt, ↓cd_true, ↓cd_false, ↓gate_tt, ↓gate_ff, ↓gate_tf, ↓gate_ft, ↓gate_undef, ↓o_bind, ↓stay_v, ↓pop_cons, ↓fin_nil, Option.isNone_none, Option.isNone_some, Bool.not_true, Bool.not_false, Nat.zero_add, decide_true, decide_false, if_true, if_false, Bool.false_eq_true, ↓reduceIte]
  have h := lg_in (X := osl 30 1 v n vs * pers (immAll vs (S.all.take n))) (by rw [star_assoc]; exact h)
  refine Pages_spec h (by omega) hle fun w h => ?_
  try simp only [↓o_nil, ↓o_field, ↓o_add, ↓o_sub, ↓o_mul, ↓o_lss, ↓o_leq, ↓o_gtr, ↓o_geq, ↓o_not, ↓o_pick, ↓o_eqInt, ↓o_neInt, ↓o_eqBool, ↓o_neBool, ↓o_eqPtr, ↓o_nePtr, ↓o_eqPtr', ↓o_eqSl, ↓o_neSl, ↓o_eqStr, ↓o_neStr, ↓o_len, ↓o_lenS, ↓o_min, ↓o_max, ↓o_extract, ↓o_convInt, ↓cd_true, ↓cd_false, ↓gate_tt, ↓gate_ff, ↓gate_tf, ↓gate_ft, ↓gate_undef, ↓o_bind, ↓stay_v, ↓pop_cons, ↓fin_nil, Option.isNone_none, Option.isNone_some, Bool.not_true, Bool.not_false, Nat.zero_add, decide_true, decide_false, if_true, if_false, Bool.false_eq_true, ↓reduceIte]
  by_cases hlt : (n : Int) < (S.pages : Int)
  · have h100 : (n : Int) < 100 := by omega
    simp only [hlt, h100, ↓o_nil, ↓o_field, ↓o_add, ↓o_sub, ↓o_mul, ↓o_lss, ↓o_leq, ↓o_gtr, ↓o_geq, ↓o_not, ↓o_pick, ↓o_eqInt, ↓o_neInt, ↓o_eqBool, ↓o_neBool, ↓o_eqPtr, ↓o_nePtr, ↓o_eqPtr', ↓o_eqSl, ↓o_neSl, ↓o_eqStr, ↓o_neStr, ↓o_len, ↓o_lenS, ↓o_min, ↓o_max, ↓o_extract, ↓o_convInt, ↓cd_true, ↓cd_false, ↓gate_tt, ↓gate_ff, ↓gate_tf, ↓gate_ft, ↓gate_undef, ↓o_bind, ↓stay_v, ↓pop_cons, ↓fin_nil, Option.isNone_none, Option.isNone_some, Bool.not_true, Bool.not_false, Nat.zero_add, decide_true, decide_false, if_true, if_false, Bool.false_eq_true, ↓reduceIte]
    have hlt : n < S.pages := by omega
    refine Read_ok h (by omega) hle hlt i.wf.l (fun v e => i.look e) (i.place_lt hlt) fun rv w h => ?_
    try simp only [↓o_nil, ↓o_field, ↓o_add, ↓o_sub, ↓o_mul, ↓o_lss, ↓o_leq, ↓o_gtr, ↓o_geq, ↓o_not, ↓o_pick, ↓o_eqInt, ↓o_neInt, ↓o_eqBool, ↓o_neBool, ↓o_eqPtr, ↓o_nePtr, ↓o_eqPtr', ↓o_eqSl, ↓o_neSl, ↓o_eqStr, ↓o_neStr, ↓o_len, ↓o_lenS, ↓o_min, ↓o_max, ↓o_extract, ↓o_convInt, ↓cd_true, ↓cd_false, ↓gate_tt, ↓gate_ff, ↓gate_tf, ↓gate_ft, ↓gate_undef, ↓o_bind, ↓stay_v, ↓pop_cons, ↓fin_nil, Option.isNone_none, Option.isNone_some, Bool.not_true, Bool.not_false, Nat.zero_add, decide_true, decide_false, if_true, if_false, Bool.false_eq_true, ↓reduceIte]
    have hv256 := view_len i hlt
    have hf := osl_freeze h
    obtain ⟨ar, cr, rfl, _, _⟩ := hf.pers_get
    have hf : sat E w (osl 30 1 v n vs * (pers (immAll (vs ++ [.slice ar 256 cr]) (S.all.take n ++ [S.view n])) * lgI p d b S R)) := by
      unfold lgI at hf
      have h2 := hf.perm (show _ = pers (immS (.slice ar 256 cr) 256 ((S.L.getD (S.place n) []).map bv)) * (pers (immAll vs (S.all.take n)) * (osl 30 1 v n vs * (pts p (.cells (lcells S d b).toArray 97 (0, 0)) * (dsk d S.L S.W * (omap b (mpA S.a) * R))))) by ac_rfl)
      have h3 := sat_snoc (l := S.view n) (v := .slice ar 256 cr) (by rw [hv256]; exact h2)
      unfold lgI
      exact h3.perm (by ac_rfl)
    refine push_sl (v := v) hf rfl rfl (by omega) (by omega) fun v2 w h => ?_
    rw [i64_of (by omega) (by omega)]
    refine hag (S.pages - (n + 1)) _ _ (by omega) ⟨n + 1, v2, vs ++ [.slice ar 256 cr], rfl, rfl, by omega, ?_⟩
    rw [List.take_succ_eq_append_getElem (by rw [hall]; exact hlt), all_at hlt]
    exact h
  · have hnn : n = S.pages := by omega
    subst hnn
    simp only [hlt, ↓o_nil, ↓o_field, ↓o_add, ↓o_sub, ↓o_mul, ↓o_lss, ↓o_leq, ↓o_gtr, ↓o_geq, ↓o_not, ↓o_pick, ↓o_eqInt, ↓o_neInt, ↓o_eqBool, ↓o_neBool, ↓o_eqPtr, ↓o_nePtr, ↓o_eqPtr', ↓o_eqSl, ↓o_neSl, ↓o_eqStr, ↓o_neStr, ↓o_len, ↓o_lenS, ↓o_min, ↓o_max, ↓o_extract, ↓o_convInt, ↓cd_true, ↓cd_false, ↓gate_tt, ↓gate_ff, ↓gate_tf, ↓gate_ft, ↓gate_undef, ↓o_bind, ↓stay_v, ↓pop_cons, ↓fin_nil, Option.isNone_none, Option.isNone_some, Bool.not_true, Bool.not_false, Nat.zero_add, decide_true, decide_false, if_true, if_false, Bool.false_eq_true, ↓reduceIte]
    refine k v vs w ?_
    have h := lg_out h
    rw [star_assoc, show S.all.take S.pages = S.all by rw [← hall, List.take_length]] at h
    rw [hall]
    exact h
/-! ### Pages -/
theorem page_same {P Q : Pg} (h1 : Q.S = P.S) (h2 : Q.dirty = P.dirty) (n : Int) : lookE Q n = lookE P n ∧ pageI Q n = pageI P n := by
  unfold pageI lookE Pg.page
  rw [h1, h2]
  exact ⟨rfl, rfl⟩
theorem write_same {P Q : Pg} (h1 : Q.S = P.S) (h2 : Q.dirty = P.dirty) (n : Int) (b : Bs) : writeE Q n b = writeE P n b ∧ (writeP Q n b).dirty = (writeP P n b).dirty := by
  have he : writeE Q n b = writeE P n b := by unfold writeE lookE; rw [h1, h2]
  refine ⟨he, ?_⟩
  unfold writeP
  rw [he]
  split
  · show putB Q.dirty n b = putB P.dirty n b; rw [h2]
  · exact h2
theorem com_same {P Q : Pg} (h1 : Q.S = P.S) (h2 : Q.dirty = P.dirty) : (comP Q).S = (comP P).S ∧ (comP Q).dirty = (comP P).dirty ∧ comE Q.S Q.dirty = comE P.S P.dirty := by
  unfold comP
  simp only
  rw [h1, h2]
  exact ⟨rfl, rfl, rfl⟩
theorem newL_view {N n : Nat} (h1 : n < 11) : (newL (N + 12) N).view n = zeros := by
  have hpl : (newL (N + 12) N).place n = N + 1 + n := by unfold Lg.place; simp [newL, lookA]
  unfold Lg.view
  rw [hpl]
  show (List.replicate (N + 12) zeros).getD _ _ = _
  rw [List.getD_eq_getElem?_getD, List.getElem?_replicate, if_pos (by omega)]; rfl
/-- A page that was written is read as it was written. -/
theorem page_write {P : Pg} {n : Int} {b : Bs} (he : writeE P n b = 0) : lookE (writeP P n b) n = 0 ∧ pageI (writeP P n b) n = b := by
  obtain ⟨h1, h2, h3⟩ := writeE_zero he
  have hl : lookE (writeP P n b) n = 0 := by
    unfold lookE
    rw [writeP_S.1, if_neg (by omega)]
  refine ⟨hl, ?_⟩
  unfold pageI Pg.page
  rw [if_pos hl, Int.toNat_of_nonneg h1.1]
  unfold writeP
  rw [if_pos he]
  show (lookB (putB P.dirty n b) n).getD _ = b
  rw [lookB_put, if_pos rfl]; rfl
end Go.Proofs.YtcjklbhobmkalaaGreat
