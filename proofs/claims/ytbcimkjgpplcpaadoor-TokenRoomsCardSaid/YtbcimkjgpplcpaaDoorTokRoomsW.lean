/-
  TokenRooms: the walk.
-/
import Derived.Test.YtbcimkjgpplcpaaDoorTokG
set_option linter.all false
set_option maxRecDepth 100000
namespace Go.Proofs.YtbcimkjgpplcpaaDoor.Rooms
open Go Hold Go.ChangeShapes Go.WideShapes Go.ChangeAt Go.RowKit
variable {E : World0} {w : World} {H R : HP} {K : Value → World → Prop}
def c9 : List UInt8 := [99]
def rst : Nat → St
  | 0 => newS
  | 1 => ⟨2, 2, 0, [⟨1, 7, [99], 1, 1⟩], [⟨1, 1, 1, 50⟩]⟩
  | _ => ⟨3, 3, 0, [⟨1, 7, [99], 1, 1⟩, ⟨2, 7, [99], 1, 1⟩], [⟨1, 1, 1, 50⟩, ⟨2, 2, 1, 50⟩]⟩
theorem rst_ok : ∀ i, OkS (rst i) 10
  | 0 => by have := ok_up (ok_up (ok_up (ok_up (ok_up (ok_up (ok_up (ok_up (ok_up (ok_up ok_newS))))))))); exact this
  | 1 => by have := ok_grant (ses := 7) (cl := [99]) (sc := 1) (now := 0) (ok_up (ok_up (ok_up (ok_up (ok_up (ok_up (ok_up (ok_up ok_newS)))))))); exact this
  | i + 2 => by have := ok_grant (ses := 7) (cl := [99]) (sc := 1) (now := 0) (ok_grant (ses := 7) (cl := [99]) (sc := 1) (now := 0) (ok_up (ok_up (ok_up (ok_up (ok_up (ok_up ok_newS))))))); exact this
theorem rst_next : ∀ i, (grantT (rst i) 7 [99] 1 0).1 = rst (i + 1) ∧ (grantT (rst i) 7 [99] 1 0).2.2.2 = if i < 2 then 0 else 23
  | 0 => ⟨rfl, rfl⟩
  | 1 => ⟨rfl, rfl⟩
  | i + 2 => ⟨rfl, by rw [if_neg (by omega)]; rfl⟩
/-- What is left behind an end. -/
def lst (n j : Nat) : St := (endT (rst n) ((j : Int) + 1)).1
theorem rst_end : ∀ i j, j < min i 2 → endT (rst i) ((j : Int) + 1) = (lst i j, 0) ∧ (famsL (lst i j) 7).length = min i 2 - 1 ∧ (grantT (lst i j) 7 [99] 1 0).2.2.2 = 0 ∧ (grantT (grantT (lst i j) 7 [99] 1 0).1 8 [99] 1 0).2.2.2 = 0
  | 0, j, h => by omega
  | 1, 0, _ => ⟨rfl, rfl, rfl, rfl⟩
  | 1, j + 1, h => by omega
  | i + 2, 0, _ => ⟨rfl, by rw [show min (i + 2) 2 - 1 = 1 by omega]; rfl, rfl, rfl⟩
  | i + 2, 1, _ => ⟨rfl, by rw [show min (i + 2) 2 - 1 = 1 by omega]; rfl, rfl, rfl⟩
  | i + 2, j + 2, h => by omega
theorem rst_fams : ∀ i, (famsL (rst i) 7).length = min i 2
  | 0 => rfl
  | 1 => rfl
  | i + 2 => by rw [show min (i + 2) 2 = 2 by omega]; rfl
theorem Rooms_spec (h : sat E w H) (n k : UInt8) (kk : ∀ w', sat E w' H → K (.bool true) w') : Calls prog 3 #[bv n, bv k] w (Ret K) := by
  have t0 : ∀ n : Int, decide (n = n) = true := fun n => decide_eq_true rfl
  have hn := n.toNat_lt
  have hk := k.toNat_lt
  rw [show bv n = .int .u8 (n.toNat : Int) from rfl, show bv k = .int .u8 (k.toNat : Int) from rfl]
  generalize n.toNat = n at hn
  generalize k.toNat = k at hk
  have e99 : (.string ⟨#[99]⟩ : Value) = tv [99] := rfl
  have e1 : (.int .u8 1 : Value) = bv 1 := rfl
  have n6 : n % 6 < 6 := Nat.mod_lt _ (by decide)
  refine c3 ?_
  unfold B3
  rw [e99, e1]
  refine New_spec h fun p b c w h => ?_
  refine live_spec h fun w h => ?_
  simp only [↓o_not, Bool.not_true, ↓cd_false]
  refine lp_nat (fun r σ w => ∃ i : Nat, σ = [.int .i64 (i : Int)] ∧ r = n % 6 - i ∧ i ≤ n % 6 ∧ sat E w (sI p (rst i) b c H)) (n % 6) ⟨0, rfl, rfl, by omega, h⟩ ?_
  clear h
  rintro r σ w again ⟨i, rfl, rfl, hi, h⟩ hag
  have m6 : (n : Int).tmod 6 = ((n % 6 : Nat) : Int) := by rw [Int.tmod_eq_emod_of_nonneg (by omega)]; omega
  rw [pop_cons, fin_nil, o_convInt, i64_of (by omega) (by omega), o_rem (by decide), m6, o_lss]
  refine cd_dec (fun hlt => ?_) (fun hge => ?_)
  · have hi1 : i < n % 6 := by omega
    refine Grant_spec (ses := 7) (cl := [99]) (sc := 1) (now := 0) (rst_ok i) (by omega) (by decide) h fun w h => ?_
    obtain ⟨e1, e2⟩ := rst_next i
    rw [e1] at h
    rw [e2, o_extract, o_extract, o_extract]
    refine two_in h fun fb tb w h => ?_
    have h := h.drop.drop
    rw [o_eqInt]
    by_cases hi2 : i < 2
    · rw [if_pos hi2]
      simp only [t0, decide_eq_true (show (i : Int) < 2 by omega), ↓o_nil, ↓o_field, ↓o_add, ↓o_sub, ↓o_mul, ↓o_lss, ↓o_leq, ↓o_gtr, ↓o_geq, ↓o_not, ↓o_pick, ↓o_eqInt, ↓o_neInt, ↓o_eqBool, ↓o_neBool, ↓o_eqPtr, ↓o_nePtr, ↓o_eqPtr', ↓o_eqSl, ↓o_neSl, ↓o_eqStr, ↓o_neStr, ↓o_len, ↓o_lenS, ↓o_min, ↓o_max, ↓o_extract, ↓o_convInt, ↓cd_true, ↓cd_false, ↓gate_tt, ↓gate_ff, ↓gate_tf, ↓gate_ft, ↓gate_undef, ↓o_bind, ↓stay_v, ↓pop_cons, ↓fin_nil, Option.isNone_none, Option.isNone_some, Bool.not_true, Bool.not_false, Nat.zero_add, decide_true, decide_false, if_true, if_false, Bool.false_eq_true, ↓reduceIte]
      simp only [show ((true : Bool) == true) = true from rfl, show decide ((0 : Int) = 0) = true from rfl, ↓o_nil, ↓o_field, ↓o_add, ↓o_sub, ↓o_mul, ↓o_lss, ↓o_leq, ↓o_gtr, ↓o_geq, ↓o_not, ↓o_pick, ↓o_eqInt, ↓o_neInt, ↓o_eqBool, ↓o_neBool, ↓o_eqPtr, ↓o_nePtr, ↓o_eqPtr', ↓o_eqSl, ↓o_neSl, ↓o_eqStr, ↓o_neStr, ↓o_len, ↓o_lenS, ↓o_min, ↓o_max, ↓o_extract, ↓o_convInt, ↓cd_true, ↓cd_false, ↓gate_tt, ↓gate_ff, ↓gate_tf, ↓gate_ft, ↓gate_undef, ↓o_bind, ↓stay_v, ↓pop_cons, ↓fin_nil, Option.isNone_none, Option.isNone_some, Bool.not_true, Bool.not_false, Nat.zero_add, decide_true, decide_false, if_true, if_false, Bool.false_eq_true, ↓reduceIte]
      rw [i64_of (by omega) (by omega)]
      exact hag (n % 6 - (i + 1)) _ _ (by omega) ⟨i + 1, rfl, rfl, by omega, h⟩
    · rw [if_neg hi2]
      simp only [show decide ((23 : Int) = 0) = false from rfl, decide_eq_false (show ¬ (i : Int) < 2 by omega), ↓o_nil, ↓o_field, ↓o_add, ↓o_sub, ↓o_mul, ↓o_lss, ↓o_leq, ↓o_gtr, ↓o_geq, ↓o_not, ↓o_pick, ↓o_eqInt, ↓o_neInt, ↓o_eqBool, ↓o_neBool, ↓o_eqPtr, ↓o_nePtr, ↓o_eqPtr', ↓o_eqSl, ↓o_neSl, ↓o_eqStr, ↓o_neStr, ↓o_len, ↓o_lenS, ↓o_min, ↓o_max, ↓o_extract, ↓o_convInt, ↓cd_true, ↓cd_false, ↓gate_tt, ↓gate_ff, ↓gate_tf, ↓gate_ft, ↓gate_undef, ↓o_bind, ↓stay_v, ↓pop_cons, ↓fin_nil, Option.isNone_none, Option.isNone_some, Bool.not_true, Bool.not_false, Nat.zero_add, decide_true, decide_false, if_true, if_false, Bool.false_eq_true, ↓reduceIte]
      simp only [show ((false : Bool) == false) = true from rfl, show decide ((23 : Int) = 0) = false from rfl, show decide ((23 : Int) = 23) = true from rfl, ↓o_nil, ↓o_field, ↓o_add, ↓o_sub, ↓o_mul, ↓o_lss, ↓o_leq, ↓o_gtr, ↓o_geq, ↓o_not, ↓o_pick, ↓o_eqInt, ↓o_neInt, ↓o_eqBool, ↓o_neBool, ↓o_eqPtr, ↓o_nePtr, ↓o_eqPtr', ↓o_eqSl, ↓o_neSl, ↓o_eqStr, ↓o_neStr, ↓o_len, ↓o_lenS, ↓o_min, ↓o_max, ↓o_extract, ↓o_convInt, ↓cd_true, ↓cd_false, ↓gate_tt, ↓gate_ff, ↓gate_tf, ↓gate_ft, ↓gate_undef, ↓o_bind, ↓stay_v, ↓pop_cons, ↓fin_nil, Option.isNone_none, Option.isNone_some, Bool.not_true, Bool.not_false, Nat.zero_add, decide_true, decide_false, if_true, if_false, Bool.false_eq_true, ↓reduceIte]
      rw [i64_of (by omega) (by omega)]
      exact hag (n % 6 - (i + 1)) _ _ (by omega) ⟨i + 1, rfl, rfl, by omega, h⟩
  · have hi2 : i = n % 6 := by omega
    subst hi2
    clear hag
    generalize n % 6 = i at *
    refine Families_spec (n := 7) (rst_ok i) (by omega) h fun u w h => ?_
    obtain ⟨ua, uc, rfl, _, _, _⟩ := osl_shape h
    have h := h.drop
    rw [rst_fams, o_len, o_eqInt]
    refine cd_dec (fun hz => ?_) (fun hz => ?_)
    · unfold sI at h
      exact kk _ h.drop.drop.drop
    have h1 : 0 < min i 2 := by omega
    have mj : (k : Int).tmod ((min i 2 : Nat) : Int) = ((k % min i 2 : Nat) : Int) := by
      rw [Int.tmod_eq_emod_of_nonneg (by omega)]
      exact (Int.natCast_emod k (min i 2)).symm
    have hj : k % min i 2 < min i 2 := Nat.mod_lt _ h1
    rw [o_convInt, i64_of (by omega) (by omega), o_rem (by omega), mj]
    generalize k % min i 2 = j at hj
    rw [o_add, i64_of (by omega) (by omega)]
    obtain ⟨a1, a2, a3, a4⟩ := rst_end i j hj
    have okl : OkS (lst i j) 10 := ok_end (rst_ok i)
    refine End_spec (rst_ok i) h fun w h => ?_
    rw [a1] at h ⊢
    simp only [show decide ((0 : Int) = 0) = true from rfl, ↓o_nil, ↓o_field, ↓o_add, ↓o_sub, ↓o_mul, ↓o_lss, ↓o_leq, ↓o_gtr, ↓o_geq, ↓o_not, ↓o_pick, ↓o_eqInt, ↓o_neInt, ↓o_eqBool, ↓o_neBool, ↓o_eqPtr, ↓o_nePtr, ↓o_eqPtr', ↓o_eqSl, ↓o_neSl, ↓o_eqStr, ↓o_neStr, ↓o_len, ↓o_lenS, ↓o_min, ↓o_max, ↓o_extract, ↓o_convInt, ↓cd_true, ↓cd_false, ↓gate_tt, ↓gate_ff, ↓gate_tf, ↓gate_ft, ↓gate_undef, ↓o_bind, ↓stay_v, ↓pop_cons, ↓fin_nil, Option.isNone_none, Option.isNone_some, Bool.not_true, Bool.not_false, Nat.zero_add, decide_true, decide_false, if_true, if_false, Bool.false_eq_true, ↓reduceIte]
    refine Families_spec (n := 7) okl (by omega) h fun u w h => ?_
    obtain ⟨ub, ud, rfl, _, _, _⟩ := osl_shape h
    have h := h.drop
    rw [a2]
    try simp only [↓o_nil, ↓o_field, ↓o_add, ↓o_sub, ↓o_mul, ↓o_lss, ↓o_leq, ↓o_gtr, ↓o_geq, ↓o_not, ↓o_pick, ↓o_eqInt, ↓o_neInt, ↓o_eqBool, ↓o_neBool, ↓o_eqPtr, ↓o_nePtr, ↓o_eqPtr', ↓o_eqSl, ↓o_neSl, ↓o_eqStr, ↓o_neStr, ↓o_len, ↓o_lenS, ↓o_min, ↓o_max, ↓o_extract, ↓o_convInt, ↓cd_true, ↓cd_false, ↓gate_tt, ↓gate_ff, ↓gate_tf, ↓gate_ft, ↓gate_undef, ↓o_bind, ↓stay_v, ↓pop_cons, ↓fin_nil, Option.isNone_none, Option.isNone_some, Bool.not_true, Bool.not_false, Nat.zero_add, decide_true, decide_false, if_true, if_false, Bool.false_eq_true, ↓reduceIte]
    rw [i64_of (by omega) (by omega)]
    have e3 : decide (((min i 2 - 1 : Nat) : Int) = ((min i 2 : Nat) : Int) - 1) = true := decide_eq_true (by omega)
    simp only [e3, ↓o_nil, ↓o_field, ↓o_add, ↓o_sub, ↓o_mul, ↓o_lss, ↓o_leq, ↓o_gtr, ↓o_geq, ↓o_not, ↓o_pick, ↓o_eqInt, ↓o_neInt, ↓o_eqBool, ↓o_neBool, ↓o_eqPtr, ↓o_nePtr, ↓o_eqPtr', ↓o_eqSl, ↓o_neSl, ↓o_eqStr, ↓o_neStr, ↓o_len, ↓o_lenS, ↓o_min, ↓o_max, ↓o_extract, ↓o_convInt, ↓cd_true, ↓cd_false, ↓gate_tt, ↓gate_ff, ↓gate_tf, ↓gate_ft, ↓gate_undef, ↓o_bind, ↓stay_v, ↓pop_cons, ↓fin_nil, Option.isNone_none, Option.isNone_some, Bool.not_true, Bool.not_false, Nat.zero_add, decide_true, decide_false, if_true, if_false, Bool.false_eq_true, ↓reduceIte]
    refine Grant_spec (ses := 7) (cl := [99]) (sc := 1) (now := 0) okl (by omega) (by decide) h fun w h => ?_
    have okg := ok_grant (ses := 7) (cl := [99]) (sc := 1) (now := 0) okl
    rw [a3, o_extract, o_extract, o_extract]
    refine two_in h fun fb tb w h => ?_
    have h := h.drop.drop
    refine Grant_spec (ses := 8) (cl := [99]) (sc := 1) (now := 0) okg (by omega) (by decide) h fun w h => ?_
    rw [a4, o_extract, o_extract, o_extract]
    refine two_in h fun fb tb w h => ?_
    have h := h.drop.drop
    simp only [show decide ((0 : Int) = 0) = true from rfl, ↓o_nil, ↓o_field, ↓o_add, ↓o_sub, ↓o_mul, ↓o_lss, ↓o_leq, ↓o_gtr, ↓o_geq, ↓o_not, ↓o_pick, ↓o_eqInt, ↓o_neInt, ↓o_eqBool, ↓o_neBool, ↓o_eqPtr, ↓o_nePtr, ↓o_eqPtr', ↓o_eqSl, ↓o_neSl, ↓o_eqStr, ↓o_neStr, ↓o_len, ↓o_lenS, ↓o_min, ↓o_max, ↓o_extract, ↓o_convInt, ↓cd_true, ↓cd_false, ↓gate_tt, ↓gate_ff, ↓gate_tf, ↓gate_ft, ↓gate_undef, ↓o_bind, ↓stay_v, ↓pop_cons, ↓fin_nil, Option.isNone_none, Option.isNone_some, Bool.not_true, Bool.not_false, Nat.zero_add, decide_true, decide_false, if_true, if_false, Bool.false_eq_true, ↓reduceIte]
    unfold sI at h
    exact kk _ h.drop.drop.drop
end Go.Proofs.YtbcimkjgpplcpaaDoor.Rooms
