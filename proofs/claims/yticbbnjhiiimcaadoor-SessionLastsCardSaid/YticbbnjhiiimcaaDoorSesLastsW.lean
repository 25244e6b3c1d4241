/-
  SessionLasts: the walk.
-/
import Derived.Test.YticbbnjhiiimcaaDoorSesO
import Derived.Test.YticbbnjhiiimcaaDoorTests
set_option linter.all false
set_option maxRecDepth 100000
namespace Go.Proofs.YticbbnjhiiimcaaDoor.Lasts
open Go Hold Go.ChangeShapes Go.WideShapes Go.ChangeAt Go.RowKit
variable {E : World0} {w : World} {H R : HP} {K : Value → World → Prop}
theorem open_since {W : World} {H : Type} {enc : TypeId × Value → H} {r : Reach} {b0 : Nat} {v : Value} {d : DataW H} {p : List MemPlace} (hv : Value.okWide prog W r b0 33 v) (h : DataW.Trod enc prog W 0 (fun _ => true) true 33 v d p) (_hw : ∀ n ∈ d.weights prog 33, n ≤ 140737488351232) : ∃ b : Fin 65536, v = .int .u16 (b.val : Int) :=
  open_u16 (by kernel_rfl) hv h
def one (b now : Int) : Tb := ⟨2, now, [⟨1, [116], [117], b, now⟩]⟩
theorem until_one {b now : Int} (h0 : 0 ≤ b) (h1 : b ≤ now) (h2 : now ≤ 1000000) : untilS ⟨1, [116], [117], b, now⟩ = min (now + 200) (b + 1000) := by
  unfold untilS later
  rw [if_neg (by simp only; omega), if_neg (by simp only; omega)]
theorem get_one {b now n : Int} (h0 : 0 ≤ b) (h1 : b ≤ now) (h2 : now ≤ n) (h3 : n ≤ 1000000) : getT (one b now) 1 n = if min (now + 200) (b + 1000) ≤ n then (zeroS, 12) else (⟨1, [116], [117], b, now⟩, 0) := by
  have ht : timeE (one b now) n = 0 := by unfold timeE one; rw [if_neg (by omega), if_neg (by simp only; omega)]
  have hf : findT (one b now) 1 = (⟨1, [116], [117], b, now⟩, 0) := rfl
  unfold getT
  rw [if_neg (by simp [ht]), hf, until_one h0 h1 (by omega)]
  simp
theorem touch_one {b now n : Int} (h0 : 0 ≤ b) (h1 : b ≤ now) (h2 : now ≤ n) (h3 : n ≤ 1000000) (h4 : n < now + 200) : touchT (one b now) 1 n = if n < b + 1000 then (one b n, ⟨1, [116], [117], b, n⟩, 0) else (one b now, zeroS, 12) := by
  by_cases h5 : n < b + 1000
  · have g : getT (one b now) 1 n = (⟨1, [116], [117], b, now⟩, 0) := by rw [get_one h0 h1 h2 h3, if_neg (by omega)]
    rw [if_pos h5]
    unfold touchT
    rw [g]
    rfl
  · have g : getT (one b now) 1 n = (zeroS, 12) := by rw [get_one h0 h1 h2 h3, if_pos (by omega)]
    rw [if_neg h5]
    unfold touchT
    rw [g]
    rfl
theorem Lasts_spec (h : sat E w H) {v : Value} (l : List UInt8) (hl : Rds H v l.length (l.map bv)) (ml : l.length ≤ 140737488351232) (b : Fin 65536) (k : ∀ w', sat E w' H → K (.bool true) w') : Calls prog 5 #[v, .int .u16 (b.val : Int)] w (Ret K) := by
  have hb := b.isLt
  generalize b.val = n0 at hb
  obtain ⟨va, vc, rfl, hvc, hl, _⟩ := hl.shape h
  refine c5 ?_
  unfold B5
  refine New_spec h fun p bm w h => ?_
  refine live_spec h fun w h => ?_
  simp only [↓o_not, Bool.not_true, ↓cd_false]
  rw [o_convInt, i64_of (by omega) (by omega)]
  refine pvv_of (v := .agg (ocells ⟨[116], [117]⟩).toArray) (fun w => by kernel_rfl) ?_
  refine Begin_spec ok_newT (by omega) ⟨by decide, by decide⟩ h fun w h => ?_
  have e1 : beginT newT ⟨[116], [117]⟩ (n0 : Int) = (one n0 n0, ⟨1, [116], [117], n0, n0⟩, 0) := by
    have ht : timeE newT (n0 : Int) = 0 := by unfold timeE newT; rw [if_neg (by omega), if_neg (by simp only; omega)]
    unfold beginT
    rw [if_neg (by decide), if_neg (by simp [ht]), if_neg (by decide), if_neg (by unfold liveL newT; simp)]
    rfl
  have ok1 := ok_begin (o := ⟨[116], [117]⟩) (now := n0) ok_newT
  rw [e1] at h ok1 ⊢
  rw [o_extract, o_extract]
  refine ses_in h fun sb w h => ?_
  rw [o_neInt, show (!decide ((0 : Int) = 0)) = false from rfl, cd_false]
  refine lp_nat (fun r σ w => ∃ (i now : Nat), σ = [.int .i64 (now : Int), .int .i64 (i : Int)] ∧ r = 40 - i ∧ i ≤ 40 ∧ n0 ≤ now ∧ now ≤ n0 + 200 * i ∧ (now < n0 + 1000 ∨ now = n0) ∧ OkT (one n0 now) 1 ∧ sat E w (pts sb (.cells (scells ⟨1, [116], [117], n0, n0⟩).toArray 25 (0, 0)) * tI p (one n0 now) bm H)) 40
    ⟨0, n0, rfl, rfl, by omega, by omega, by omega, .inr rfl, ok1, h⟩ ?_
  clear h ok1
  rintro r σ w again ⟨i, now, rfl, rfl, hi, hn1, hn2, hn3, ok, h⟩ hag
  rw [pop_cons, pop_cons, fin_nil, o_len, two_lss]
  refine cd_dec (fun hlt => ?_) (fun hge => ?_)
  · obtain ⟨hlt1, hlt2⟩ := hlt
    have hi2 : i < l.length := by omega
    obtain ⟨b1, o1, _, e, _, hl⟩ := hl.opened h.drop.drop.drop (by simp; omega)
    cases e
    rw [o_index (by omega) (by omega)]
    have hd : (l.getD i 0).toNat < 256 := (l.getD i 0).toNat_lt
    refine ld_rd h (Rds.under hl) i (by simp) (v := bv (l.getD i 0)) (getbv hi2) ?_
    rw [show bv (l.getD i 0) = .int .u8 ((l.getD i 0).toNat : Int) from rfl]
    generalize (l.getD i 0).toNat = d at hd
    have e2 : (d : Int).tmod 200 = ((d % 200 : Nat) : Int) := by rw [Int.tmod_eq_emod_of_nonneg (by omega)]; omega
    have hd2 : d % 200 < 200 := Nat.mod_lt _ (by decide)
    rw [o_convInt, i64_of (by omega) (by omega), o_rem (by decide), e2, o_add, i64_of (by omega) (by omega)]
    generalize d % 200 = d at hd2
    simp only [↓o_nil, ↓o_field, ↓o_add, ↓o_sub, ↓o_mul, ↓o_lss, ↓o_leq, ↓o_gtr, ↓o_geq, ↓o_not, ↓o_pick, ↓o_eqInt, ↓o_neInt, ↓o_eqBool, ↓o_neBool, ↓o_eqPtr, ↓o_nePtr, ↓o_eqPtr', ↓o_eqSl, ↓o_neSl, ↓o_eqStr, ↓o_neStr, ↓o_len, ↓o_lenS, ↓o_min, ↓o_max, ↓o_extract, ↓o_convInt, ↓cd_true, ↓cd_false, ↓gate_tt, ↓gate_ff, ↓gate_tf, ↓gate_ft, ↓gate_undef, ↓o_bind, ↓stay_v, ↓pop_cons, ↓fin_nil, Option.isNone_none, Option.isNone_some, Bool.not_true, Bool.not_false, Nat.zero_add, decide_true, decide_false, if_true, if_false, Bool.false_eq_true, ↓reduceIte]
    refine ld_in (b := sb) (v := .int .i64 1) h rfl ?_
    refine Touch_spec ok (tI_in h) fun w h => ?_
    have ht := touch_one (b := n0) (now := now) (n := (now : Int) + d) (by omega) (by omega) (by omega) (by omega) (by omega)
    have okn := ok_touch (id := 1) (now := (now : Int) + d) ok
    rw [ht] at h okn ⊢
    rw [o_extract, o_extract]
    refine ses_in (tI_out h) fun xb w h => ?_
    simp only [↓o_nil, ↓o_field, ↓o_add, ↓o_sub, ↓o_mul, ↓o_lss, ↓o_leq, ↓o_gtr, ↓o_geq, ↓o_not, ↓o_pick, ↓o_eqInt, ↓o_neInt, ↓o_eqBool, ↓o_neBool, ↓o_eqPtr, ↓o_nePtr, ↓o_eqPtr', ↓o_eqSl, ↓o_neSl, ↓o_eqStr, ↓o_neStr, ↓o_len, ↓o_lenS, ↓o_min, ↓o_max, ↓o_extract, ↓o_convInt, ↓cd_true, ↓cd_false, ↓gate_tt, ↓gate_ff, ↓gate_tf, ↓gate_ft, ↓gate_undef, ↓o_bind, ↓stay_v, ↓pop_cons, ↓fin_nil, Option.isNone_none, Option.isNone_some, Bool.not_true, Bool.not_false, Nat.zero_add, decide_true, decide_false, if_true, if_false, Bool.false_eq_true, ↓reduceIte]
    rw [i64_of (show -9223372036854775808 ≤ (n0 : Int) + 1000 by omega) (by omega)]
    by_cases h5 : (now : Int) + d < n0 + 1000
    · rw [if_pos h5] at h okn ⊢
      rw [decide_eq_true h5]
      simp only [show decide ((0 : Int) = 0) = true from rfl, show ((true : Bool) == true) = true from rfl, ↓o_nil, ↓o_field, ↓o_add, ↓o_sub, ↓o_mul, ↓o_lss, ↓o_leq, ↓o_gtr, ↓o_geq, ↓o_not, ↓o_pick, ↓o_eqInt, ↓o_neInt, ↓o_eqBool, ↓o_neBool, ↓o_eqPtr, ↓o_nePtr, ↓o_eqPtr', ↓o_eqSl, ↓o_neSl, ↓o_eqStr, ↓o_neStr, ↓o_len, ↓o_lenS, ↓o_min, ↓o_max, ↓o_extract, ↓o_convInt, ↓cd_true, ↓cd_false, ↓gate_tt, ↓gate_ff, ↓gate_tf, ↓gate_ft, ↓gate_undef, ↓o_bind, ↓stay_v, ↓pop_cons, ↓fin_nil, Option.isNone_none, Option.isNone_some, Bool.not_true, Bool.not_false, Nat.zero_add, decide_true, decide_false, if_true, if_false, Bool.false_eq_true, ↓reduceIte]
      refine ld_in (b := xb) (v := .int .i64 ((now : Int) + d)) h rfl ?_
      simp only [show decide ((now : Int) + d = (now : Int) + d) = true from decide_eq_true rfl, ↓o_nil, ↓o_field, ↓o_add, ↓o_sub, ↓o_mul, ↓o_lss, ↓o_leq, ↓o_gtr, ↓o_geq, ↓o_not, ↓o_pick, ↓o_eqInt, ↓o_neInt, ↓o_eqBool, ↓o_neBool, ↓o_eqPtr, ↓o_nePtr, ↓o_eqPtr', ↓o_eqSl, ↓o_neSl, ↓o_eqStr, ↓o_neStr, ↓o_len, ↓o_lenS, ↓o_min, ↓o_max, ↓o_extract, ↓o_convInt, ↓cd_true, ↓cd_false, ↓gate_tt, ↓gate_ff, ↓gate_tf, ↓gate_ft, ↓gate_undef, ↓o_bind, ↓stay_v, ↓pop_cons, ↓fin_nil, Option.isNone_none, Option.isNone_some, Bool.not_true, Bool.not_false, Nat.zero_add, decide_true, decide_false, if_true, if_false, Bool.false_eq_true, ↓reduceIte]
      refine ld_in (b := xb) (v := .int .i64 n0) h rfl ?_
      simp only [show decide ((n0 : Int) = (n0 : Int)) = true from decide_eq_true rfl, ↓o_nil, ↓o_field, ↓o_add, ↓o_sub, ↓o_mul, ↓o_lss, ↓o_leq, ↓o_gtr, ↓o_geq, ↓o_not, ↓o_pick, ↓o_eqInt, ↓o_neInt, ↓o_eqBool, ↓o_neBool, ↓o_eqPtr, ↓o_nePtr, ↓o_eqPtr', ↓o_eqSl, ↓o_neSl, ↓o_eqStr, ↓o_neStr, ↓o_len, ↓o_lenS, ↓o_min, ↓o_max, ↓o_extract, ↓o_convInt, ↓cd_true, ↓cd_false, ↓gate_tt, ↓gate_ff, ↓gate_tf, ↓gate_ft, ↓gate_undef, ↓o_bind, ↓stay_v, ↓pop_cons, ↓fin_nil, Option.isNone_none, Option.isNone_some, Bool.not_true, Bool.not_false, Nat.zero_add, decide_true, decide_false, if_true, if_false, Bool.false_eq_true, ↓reduceIte]
      rw [i64_of (by omega) (by omega)]
      have e3 : (now : Int) + (d : Int) = ((now + d : Nat) : Int) := by omega
      rw [e3] at h okn ⊢
      exact hag (40 - (i + 1)) _ _ (by omega) ⟨i + 1, now + d, rfl, rfl, by omega, by omega, by omega, .inl (by omega), okn, h.drop⟩
    · rw [if_neg h5] at h ⊢
      rw [decide_eq_false h5]
      simp only [show decide ((12 : Int) = 0) = false from rfl, show ((false : Bool) == false) = true from rfl, show decide ((12 : Int) = 12) = true from rfl, ↓o_nil, ↓o_field, ↓o_add, ↓o_sub, ↓o_mul, ↓o_lss, ↓o_leq, ↓o_gtr, ↓o_geq, ↓o_not, ↓o_pick, ↓o_eqInt, ↓o_neInt, ↓o_eqBool, ↓o_neBool, ↓o_eqPtr, ↓o_nePtr, ↓o_eqPtr', ↓o_eqSl, ↓o_neSl, ↓o_eqStr, ↓o_neStr, ↓o_len, ↓o_lenS, ↓o_min, ↓o_max, ↓o_extract, ↓o_convInt, ↓cd_true, ↓cd_false, ↓gate_tt, ↓gate_ff, ↓gate_tf, ↓gate_ft, ↓gate_undef, ↓o_bind, ↓stay_v, ↓pop_cons, ↓fin_nil, Option.isNone_none, Option.isNone_some, Bool.not_true, Bool.not_false, Nat.zero_add, decide_true, decide_false, if_true, if_false, Bool.false_eq_true, ↓reduceIte]
      exact k w h.drop.drop.drop.drop
  · try simp only [↓o_nil, ↓o_field, ↓o_add, ↓o_sub, ↓o_mul, ↓o_lss, ↓o_leq, ↓o_gtr, ↓o_geq, ↓o_not, ↓o_pick, ↓o_eqInt, ↓o_neInt, ↓o_eqBool, ↓o_neBool, ↓o_eqPtr, ↓o_nePtr, ↓o_eqPtr', ↓o_eqSl, ↓o_neSl, ↓o_eqStr, ↓o_neStr, ↓o_len, ↓o_lenS, ↓o_min, ↓o_max, ↓o_extract, ↓o_convInt, ↓cd_true, ↓cd_false, ↓gate_tt, ↓gate_ff, ↓gate_tf, ↓gate_ft, ↓gate_undef, ↓o_bind, ↓stay_v, ↓pop_cons, ↓fin_nil, Option.isNone_none, Option.isNone_some, Bool.not_true, Bool.not_false, Nat.zero_add, decide_true, decide_false, if_true, if_false, Bool.false_eq_true, ↓reduceIte]
    refine ld_in (b := sb) (v := .int .i64 1) h rfl ?_
    try simp only [↓o_nil, ↓o_field, ↓o_add, ↓o_sub, ↓o_mul, ↓o_lss, ↓o_leq, ↓o_gtr, ↓o_geq, ↓o_not, ↓o_pick, ↓o_eqInt, ↓o_neInt, ↓o_eqBool, ↓o_neBool, ↓o_eqPtr, ↓o_nePtr, ↓o_eqPtr', ↓o_eqSl, ↓o_neSl, ↓o_eqStr, ↓o_neStr, ↓o_len, ↓o_lenS, ↓o_min, ↓o_max, ↓o_extract, ↓o_convInt, ↓cd_true, ↓cd_false, ↓gate_tt, ↓gate_ff, ↓gate_tf, ↓gate_ft, ↓gate_undef, ↓o_bind, ↓stay_v, ↓pop_cons, ↓fin_nil, Option.isNone_none, Option.isNone_some, Bool.not_true, Bool.not_false, Nat.zero_add, decide_true, decide_false, if_true, if_false, Bool.false_eq_true, ↓reduceIte]
    rw [i64_of (show -9223372036854775808 ≤ (n0 : Int) + 1000 by omega) (by omega)]
    refine Get_spec ok (tI_in h) fun w h => ?_
    have hg := get_one (b := n0) (now := now) (n := (n0 : Int) + 1000) (by omega) (by omega) (by omega) (by omega)
    rw [if_pos (by omega)] at hg
    rw [hg, o_extract, o_extract]
    refine ses_in (tI_out h) fun xb w h => ?_
    simp only [show decide ((12 : Int) = 12) = true from rfl, ↓o_nil, ↓o_field, ↓o_add, ↓o_sub, ↓o_mul, ↓o_lss, ↓o_leq, ↓o_gtr, ↓o_geq, ↓o_not, ↓o_pick, ↓o_eqInt, ↓o_neInt, ↓o_eqBool, ↓o_neBool, ↓o_eqPtr, ↓o_nePtr, ↓o_eqPtr', ↓o_eqSl, ↓o_neSl, ↓o_eqStr, ↓o_neStr, ↓o_len, ↓o_lenS, ↓o_min, ↓o_max, ↓o_extract, ↓o_convInt, ↓cd_true, ↓cd_false, ↓gate_tt, ↓gate_ff, ↓gate_tf, ↓gate_ft, ↓gate_undef, ↓o_bind, ↓stay_v, ↓pop_cons, ↓fin_nil, Option.isNone_none, Option.isNone_some, Bool.not_true, Bool.not_false, Nat.zero_add, decide_true, decide_false, if_true, if_false, Bool.false_eq_true, ↓reduceIte]
    exact k w h.drop.drop.drop.drop
end Go.Proofs.YticbbnjhiiimcaaDoor.Lasts
