/-
  strings.HasPrefix.
-/
import Derived.Test.YtmnaalpjhkkglaaGreatDoorPB
import Derived.Test.YtmnaalpjhkkglaaGreatDoorPar
import Derived.Test.YtmnaalpjhkkglaaGreatDoorNames
import Derived.Test.YtmnaalpjhkkglaaGreatDoorStrs
import Derived.Test.YtmnaalpjhkkglaaGreatDoorHshR
import Derived.Test.YtmnaalpjhkkglaaGreatDoorElems
set_option linter.all false
set_option maxRecDepth 100000
namespace Go.Proofs.YtmnaalpjhkkglaaGreatDoor
open Go Hold
variable {E : World0} {w : World} {H R : HP} {K : Value → World → Prop}
theorem HasPrefix_spec {l p : List UInt8} (k : K (.bool (decide (p <+: l))) w) : Calls prog 74 #[tv l, tv p] w (Ret K) := by
  refine c74 ?_
  unfold B74
  refine c102 ?_
  unfold B102
  rw [o_lenT, o_lenT, o_geq]
  by_cases h : p.length ≤ l.length
  · have t1 : decide ((p.length : Int) ≤ (l.length : Int)) = true := decide_eq_true (by omega)
    simp only [t1, ↓o_lenT, ↓o_nil, ↓o_field, ↓o_add, ↓o_sub, ↓o_mul, ↓o_lss, ↓o_leq, ↓o_gtr, ↓o_geq, ↓o_not, ↓o_pick, ↓o_eqInt, ↓o_neInt, ↓o_eqBool, ↓o_neBool, ↓o_eqPtr, ↓o_nePtr, ↓o_eqPtr', ↓o_eqSl, ↓o_neSl, ↓o_eqStr, ↓o_neStr, ↓o_len, ↓o_lenS, ↓o_min, ↓o_max, ↓o_extract, ↓o_convInt, ↓cd_true, ↓cd_false, ↓gate_tt, ↓gate_ff, ↓gate_tf, ↓gate_ft, ↓gate_undef, ↓o_bind, ↓stay_v, ↓pop_cons, ↓fin_nil, Option.isNone_none, Option.isNone_some, Bool.not_true, Bool.not_false, Nat.zero_add, decide_true, decide_false, if_true, if_false, Bool.false_eq_true, ↓reduceIte]
    rw [o_sliceT_h (by omega) (by omega), Int.toNat_natCast, o_eqT]
    have e : decide (l.take p.length = p) = decide (p <+: l) := by
      rw [decide_eq_decide, List.prefix_iff_eq_take]
      exact eq_comm
    rw [e]
    try simp only [↓o_nil, ↓o_field, ↓o_add, ↓o_sub, ↓o_mul, ↓o_lss, ↓o_leq, ↓o_gtr, ↓o_geq, ↓o_not, ↓o_pick, ↓o_eqInt, ↓o_neInt, ↓o_eqBool, ↓o_neBool, ↓o_eqPtr, ↓o_nePtr, ↓o_eqPtr', ↓o_eqSl, ↓o_neSl, ↓o_eqStr, ↓o_neStr, ↓o_len, ↓o_lenS, ↓o_min, ↓o_max, ↓o_extract, ↓o_convInt, ↓cd_true, ↓cd_false, ↓gate_tt, ↓gate_ff, ↓gate_tf, ↓gate_ft, ↓gate_undef, ↓o_bind, ↓stay_v, ↓pop_cons, ↓fin_nil, Option.isNone_none, Option.isNone_some, Bool.not_true, Bool.not_false, Nat.zero_add, decide_true, decide_false, if_true, if_false, Bool.false_eq_true, ↓reduceIte]
    exact k
  · have t1 : decide ((p.length : Int) ≤ (l.length : Int)) = false := decide_eq_false (by omega)
    have e : decide (p <+: l) = false := decide_eq_false (fun hp => h hp.length_le)
    rw [e] at k
    simp only [t1, ↓o_nil, ↓o_field, ↓o_add, ↓o_sub, ↓o_mul, ↓o_lss, ↓o_leq, ↓o_gtr, ↓o_geq, ↓o_not, ↓o_pick, ↓o_eqInt, ↓o_neInt, ↓o_eqBool, ↓o_neBool, ↓o_eqPtr, ↓o_nePtr, ↓o_eqPtr', ↓o_eqSl, ↓o_neSl, ↓o_eqStr, ↓o_neStr, ↓o_len, ↓o_lenS, ↓o_min, ↓o_max, ↓o_extract, ↓o_convInt, ↓cd_true, ↓cd_false, ↓gate_tt, ↓gate_ff, ↓gate_tf, ↓gate_ft, ↓gate_undef, ↓o_bind, ↓stay_v, ↓pop_cons, ↓fin_nil, Option.isNone_none, Option.isNone_some, Bool.not_true, Bool.not_false, Nat.zero_add, decide_true, decide_false, if_true, if_false, Bool.false_eq_true, ↓reduceIte]
    exact k
end Go.Proofs.YtmnaalpjhkkglaaGreatDoor

/-
  strconv.ParseUint on hexadecimal digits; codec.ToNumber.
-/
set_option linter.all false
set_option maxRecDepth 100000
namespace Go.Proofs.YtmnaalpjhkkglaaGreatDoor
open Go Hold
variable {E : World0} {w : World} {H R : HP} {K : Value → World → Prop}
def hexSet : List UInt8 := [48, 49, 50, 51, 52, 53, 54, 55, 56, 57, 97, 98, 99, 100, 101, 102]
def hexv (c : UInt8) : Nat := if c.toNat ≤ 57 then c.toNat - 48 else c.toNat - 87
def hexVal (l : List UInt8) : Nat := l.foldl (fun n c => n * 16 + hexv c) 0
theorem hex_byte : ∀ n, n < 256 → UInt8.ofNat n ∈ hexSet → (48 ≤ n ∧ n ≤ 57) ∨ (97 ≤ n ∧ n ≤ 102) := by decide +kernel
theorem hex_mem {c : UInt8} (h : c ∈ hexSet) : (48 ≤ c.toNat ∧ c.toNat ≤ 57) ∨ (97 ≤ c.toNat ∧ c.toNat ≤ 102) := hex_byte c.toNat c.toNat_lt (by simpa using h)
theorem or32 : ∀ n, n < 256 → 97 ≤ n → n ≤ 102 → UInt8.ofNat n ||| 32 = UInt8.ofNat n := by decide +kernel
theorem or32c {c : UInt8} (h : 97 ≤ c.toNat ∧ c.toNat ≤ 102) : c ||| 32 = c := by
  have := or32 c.toNat c.toNat_lt h.1 h.2
  simpa using this
theorem hexv_lt {c : UInt8} (h : c ∈ hexSet) : hexv c < 16 := by
  unfold hexv
  rcases hex_mem h with h | h
  · rw [if_pos h.2]; omega
  · rw [if_neg (by omega)]; omega
theorem hexVal_snoc (l : List UInt8) (c : UInt8) : hexVal (l ++ [c]) = hexVal l * 16 + hexv c := by unfold hexVal; rw [List.foldl_append]; rfl
theorem foldl_lt : ∀ (l : List UInt8) (n : Nat), (∀ c ∈ l, c ∈ hexSet) → l.foldl (fun n c => n * 16 + hexv c) n < (n + 1) * 16 ^ l.length
  | [], n, _ => by simp
  | c :: l, n, h => by
    have ih := foldl_lt l (n * 16 + hexv c) fun d hd => h d (by simp [hd])
    have hc := hexv_lt (h c (by simp))
    refine Nat.lt_of_lt_of_le (by simpa using ih) ?_
    rw [List.length_cons, Nat.pow_succ, Nat.mul_comm (16 ^ l.length) 16, ← Nat.mul_assoc]
    exact Nat.mul_le_mul_right _ (by omega)
theorem hexVal_lt {l : List UInt8} (h : ∀ c ∈ l, c ∈ hexSet) : hexVal l < 16 ^ l.length := by
  have := foldl_lt l 0 h
  unfold hexVal
  simpa using this
theorem lower_spec {c : UInt8} (k : K (bv (c ||| 32)) w) : Calls prog 128 #[bv c] w (Ret K) := by
  refine c128 ?_
  unfold B128
  rw [show (Value.int .u8 32) = bv 32 from rfl, o_orB]
  exact k
theorem Parse_spec {ds : List UInt8} (hd : ∀ c ∈ ds, c ∈ hexSet) (hl : ds.length ≤ 16) (h : sat E w H) (k : ∀ w', sat E w' H → K (.tuple #[.int .u64 (hexVal ds : Int), .nilIface]) w') :
    Calls prog 103 #[tv (48 :: ds), .int .i64 16, .int .i64 64] w (Ret K) := by
  have e0 : (.string ⟨#[]⟩ : Value) = tv [] := rfl
  have w9 : IntKind.u64.wrap ((0 : Int) - 1) = 18446744073709551615 := by rw [IntKind.wrap_u64]; rfl
  refine c103 ?_
  unfold B103
  rw [e0, o_eqT, decide_eq_false (by simp), cd_false, o_eqInt, decide_eq_false (by decide)]
  refine jn_cut (fun σ w => σ = [tv (48 :: ds), .int .i64 16] ∧ sat E w H) (fun kj hkj => ?_) ?_
  · simp only [decide_eq_true (show (2 : Int) ≤ 16 by decide), decide_eq_true (show (16 : Int) ≤ 36 by decide), ↓o_nil, ↓o_field, ↓o_add, ↓o_sub, ↓o_mul, ↓o_lss, ↓o_leq, ↓o_gtr, ↓o_geq, ↓o_not, ↓o_pick, ↓o_eqInt, ↓o_neInt, ↓o_eqBool, ↓o_neBool, ↓o_eqPtr, ↓o_nePtr, ↓o_eqPtr', ↓o_eqSl, ↓o_neSl, ↓o_eqStr, ↓o_neStr, ↓o_len, ↓o_lenS, ↓o_min, ↓o_max, ↓o_extract, ↓o_convInt, ↓cd_true, ↓cd_false, ↓gate_tt, ↓gate_ff, ↓gate_tf, ↓gate_ft, ↓gate_undef, ↓o_bind, ↓stay_v, ↓pop_cons, ↓fin_nil, Option.isNone_none, Option.isNone_some, Bool.not_true, Bool.not_false, Nat.zero_add, decide_true, decide_false, if_true, if_false, Bool.false_eq_true, ↓reduceIte]
    exact hkj _ _ ⟨rfl, h⟩
  clear h
  rintro σ w ⟨rfl, h⟩
  rw [pop_cons, pop_cons, fin_nil]
  refine jn_cut (fun σ w => σ = [.int .i64 64] ∧ sat E w H) (fun kj hkj => ?_) ?_
  · rw [o_eqInt, decide_eq_false (by decide), cd_false, o_lss]
    simp only [decide_eq_false (show ¬ (64 : Int) < 0 by decide), decide_eq_false (show ¬ (64 : Int) < 64 by decide), ↓o_nil, ↓o_field, ↓o_add, ↓o_sub, ↓o_mul, ↓o_lss, ↓o_leq, ↓o_gtr, ↓o_geq, ↓o_not, ↓o_pick, ↓o_eqInt, ↓o_neInt, ↓o_eqBool, ↓o_neBool, ↓o_eqPtr, ↓o_nePtr, ↓o_eqPtr', ↓o_eqSl, ↓o_neSl, ↓o_eqStr, ↓o_neStr, ↓o_len, ↓o_lenS, ↓o_min, ↓o_max, ↓o_extract, ↓o_convInt, ↓cd_true, ↓cd_false, ↓gate_tt, ↓gate_ff, ↓gate_tf, ↓gate_ft, ↓gate_undef, ↓o_bind, ↓stay_v, ↓pop_cons, ↓fin_nil, Option.isNone_none, Option.isNone_some, Bool.not_true, Bool.not_false, Nat.zero_add, decide_true, decide_false, if_true, if_false, Bool.false_eq_true, ↓reduceIte]
    exact hkj _ _ ⟨rfl, h⟩
  clear h
  rintro σ w ⟨rfl, h⟩
  rw [pop_cons, fin_nil]
  refine jn_cut (fun σ w => σ = [.int .u64 1152921504606846976] ∧ sat E w H) (fun kj hkj => ?_) ?_
  · rw [o_eqInt, decide_eq_false (by decide), cd_false, o_eqInt, decide_eq_true (by decide), cd_true]
    exact hkj _ _ ⟨rfl, h⟩
  clear h
  rintro σ w ⟨rfl, h⟩
  rw [pop_cons, fin_nil, o_convInt, show (IntKind.u64.wrap 64) = ((64 : Nat) : Int) by rw [IntKind.wrap_u64]; rfl, o_shl (by decide), show IntKind.u64.wrap (1 * 2 ^ 64) = 0 by rw [IntKind.wrap_u64]; rfl, o_sub, w9]
  refine conv_sb h fun b c sp fr w h hc => ?_
  have hL : ∀ c ∈ (48 :: ds), c ∈ hexSet := fun c hc => by
    rcases List.mem_cons.1 hc with rfl | hc
    · decide
    · exact hd c hc
  have hval : ∀ i, i ≤ 16 → hexVal ((48 :: ds).take i) < 1152921504606846976 := by
    intro i hi
    cases i with
    | zero => simp [hexVal]
    | succ i =>
      have e : hexVal ((48 :: ds).take (i + 1)) = hexVal (ds.take i) := by
        rw [List.take_succ_cons]
        unfold hexVal
        rw [List.foldl_cons, show (0 * 16 + hexv 48) = 0 from rfl]
      rw [e]
      have h1 := hexVal_lt (l := ds.take i) fun c hc => hd c (List.mem_of_mem_take hc)
      refine Nat.lt_of_lt_of_le h1 ?_
      have h2 : (ds.take i).length ≤ 15 := by rw [List.length_take]; omega
      calc 16 ^ (ds.take i).length ≤ 16 ^ 15 := Nat.pow_le_pow_right (by decide) h2
        _ = 1152921504606846976 := by decide
  have hlen : (48 :: ds).length ≤ 17 := by simp; omega
  have hfin : hexVal (48 :: ds) = hexVal ds := by
    unfold hexVal
    rw [List.foldl_cons, show (0 * 16 + hexv 48) = 0 from rfl]
  rw [o_len]
  generalize 48 :: ds = l at hL hval hlen hfin h hc
  refine lp_nat (fun r σ w => ∃ i : Nat, σ = [.bool false, .int .u64 (hexVal (l.take i) : Int), .int .i64 (i : Int)] ∧ r = l.length - i ∧ i ≤ l.length ∧ sat E w (pts b (.cells (l.map bv ++ sp).toArray 5 fr) * H)) l.length ⟨0, by simp [hexVal], by omega, by omega, h⟩ ?_
  clear h
  rintro r σ w again ⟨i, rfl, rfl, hi, h⟩ hag
  rw [pop_cons, pop_cons, pop_cons, fin_nil, o_lss]
  refine cd_dec (fun hlt => ?_) (fun hge => ?_)
  · have hi1 : i < l.length := by omega
    have hx : l[i]? = some l[i] := List.getElem?_eq_getElem hi1
    have hm := hL _ (List.getElem_mem hi1)
    have htk : l.take (i + 1) = l.take i ++ [l[i]] := List.take_succ_eq_append_getElem hi1
    generalize l[i] = d at hx hm htk
    have hv := hval i (by omega)
    have hdv := hexv_lt hm
    have hnext : hexVal (l.take (i + 1)) = hexVal (l.take i) * 16 + hexv d := by rw [htk, hexVal_snoc]
    refine jn_cut (fun σ w => σ = [.bool false, .int .u64 (hexVal (l.take (i + 1)) : Int)] ∧ sat E w (pts b (.cells (l.map bv ++ sp).toArray 5 fr) * H)) (fun kj hkj => ?_) ?_
    · rw [o_index (by omega) (by omega)]
      refine ld_in (b := b) (v := bv d) h (by
        rw [Nat.zero_add, Int.toNat_natCast, List.getElem?_append_left (by simpa using hi1), List.getElem?_map, Nat.mul_one, hx]
        rfl) ?_
      have hdn := d.toNat_lt
      refine jn_cut (fun σ w => σ = [.bool false, .int .u8 (hexv d : Int)] ∧ sat E w (pts b (.cells (l.map bv ++ sp).toArray 5 fr) * H)) (fun kj2 hkj2 => ?_) ?_
      · rw [show bv d = .int .u8 (d.toNat : Int) from rfl, o_eqInt]
        have h95 : ¬ (d.toNat : Int) = 95 := by rcases hex_mem hm with h | h <;> omega
        simp only [decide_eq_false h95, ↓o_nil, ↓o_field, ↓o_add, ↓o_sub, ↓o_mul, ↓o_lss, ↓o_leq, ↓o_gtr, ↓o_geq, ↓o_not, ↓o_pick, ↓o_eqInt, ↓o_neInt, ↓o_eqBool, ↓o_neBool, ↓o_eqPtr, ↓o_nePtr, ↓o_eqPtr', ↓o_eqSl, ↓o_neSl, ↓o_eqStr, ↓o_neStr, ↓o_len, ↓o_lenS, ↓o_min, ↓o_max, ↓o_extract, ↓o_convInt, ↓cd_true, ↓cd_false, ↓gate_tt, ↓gate_ff, ↓gate_tf, ↓gate_ft, ↓gate_undef, ↓o_bind, ↓stay_v, ↓pop_cons, ↓fin_nil, Option.isNone_none, Option.isNone_some, Bool.not_true, Bool.not_false, Nat.zero_add, decide_true, decide_false, if_true, if_false, Bool.false_eq_true, ↓reduceIte]
        rcases hex_mem hm with hr | hr
        · simp only [decide_eq_true (show (48 : Int) ≤ (d.toNat : Int) by omega), decide_eq_true (show (d.toNat : Int) ≤ 57 by omega), ↓o_nil, ↓o_field, ↓o_add, ↓o_sub, ↓o_mul, ↓o_lss, ↓o_leq, ↓o_gtr, ↓o_geq, ↓o_not, ↓o_pick, ↓o_eqInt, ↓o_neInt, ↓o_eqBool, ↓o_neBool, ↓o_eqPtr, ↓o_nePtr, ↓o_eqPtr', ↓o_eqSl, ↓o_neSl, ↓o_eqStr, ↓o_neStr, ↓o_len, ↓o_lenS, ↓o_min, ↓o_max, ↓o_extract, ↓o_convInt, ↓cd_true, ↓cd_false, ↓gate_tt, ↓gate_ff, ↓gate_tf, ↓gate_ft, ↓gate_undef, ↓o_bind, ↓stay_v, ↓pop_cons, ↓fin_nil, Option.isNone_none, Option.isNone_some, Bool.not_true, Bool.not_false, Nat.zero_add, decide_true, decide_false, if_true, if_false, Bool.false_eq_true, ↓reduceIte]
          refine hkj2 _ _ ⟨?_, h⟩
          have e : hexv d = d.toNat - 48 := by unfold hexv; rw [if_pos hr.2]
          rw [e, IntKind.wrap_u8]
          congr 3
          omega
        · simp only [decide_eq_true (show (48 : Int) ≤ (d.toNat : Int) by omega), decide_eq_false (show ¬ (d.toNat : Int) ≤ 57 by omega), ↓o_nil, ↓o_field, ↓o_add, ↓o_sub, ↓o_mul, ↓o_lss, ↓o_leq, ↓o_gtr, ↓o_geq, ↓o_not, ↓o_pick, ↓o_eqInt, ↓o_neInt, ↓o_eqBool, ↓o_neBool, ↓o_eqPtr, ↓o_nePtr, ↓o_eqPtr', ↓o_eqSl, ↓o_neSl, ↓o_eqStr, ↓o_neStr, ↓o_len, ↓o_lenS, ↓o_min, ↓o_max, ↓o_extract, ↓o_convInt, ↓cd_true, ↓cd_false, ↓gate_tt, ↓gate_ff, ↓gate_tf, ↓gate_ft, ↓gate_undef, ↓o_bind, ↓stay_v, ↓pop_cons, ↓fin_nil, Option.isNone_none, Option.isNone_some, Bool.not_true, Bool.not_false, Nat.zero_add, decide_true, decide_false, if_true, if_false, Bool.false_eq_true, ↓reduceIte]
          rw [show Value.int .u8 (d.toNat : Int) = bv d from rfl]
          refine lower_spec ?_
          rw [or32c hr, show bv d = .int .u8 (d.toNat : Int) from rfl]
          simp only [decide_eq_true (show (97 : Int) ≤ (d.toNat : Int) by omega), ↓o_nil, ↓o_field, ↓o_add, ↓o_sub, ↓o_mul, ↓o_lss, ↓o_leq, ↓o_gtr, ↓o_geq, ↓o_not, ↓o_pick, ↓o_eqInt, ↓o_neInt, ↓o_eqBool, ↓o_neBool, ↓o_eqPtr, ↓o_nePtr, ↓o_eqPtr', ↓o_eqSl, ↓o_neSl, ↓o_eqStr, ↓o_neStr, ↓o_len, ↓o_lenS, ↓o_min, ↓o_max, ↓o_extract, ↓o_convInt, ↓cd_true, ↓cd_false, ↓gate_tt, ↓gate_ff, ↓gate_tf, ↓gate_ft, ↓gate_undef, ↓o_bind, ↓stay_v, ↓pop_cons, ↓fin_nil, Option.isNone_none, Option.isNone_some, Bool.not_true, Bool.not_false, Nat.zero_add, decide_true, decide_false, if_true, if_false, Bool.false_eq_true, ↓reduceIte]
          rw [show Value.int .u8 (d.toNat : Int) = bv d from rfl]
          refine lower_spec ?_
          rw [or32c hr, show bv d = .int .u8 (d.toNat : Int) from rfl]
          simp only [decide_eq_true (show (d.toNat : Int) ≤ 122 by omega), ↓o_nil, ↓o_field, ↓o_add, ↓o_sub, ↓o_mul, ↓o_lss, ↓o_leq, ↓o_gtr, ↓o_geq, ↓o_not, ↓o_pick, ↓o_eqInt, ↓o_neInt, ↓o_eqBool, ↓o_neBool, ↓o_eqPtr, ↓o_nePtr, ↓o_eqPtr', ↓o_eqSl, ↓o_neSl, ↓o_eqStr, ↓o_neStr, ↓o_len, ↓o_lenS, ↓o_min, ↓o_max, ↓o_extract, ↓o_convInt, ↓cd_true, ↓cd_false, ↓gate_tt, ↓gate_ff, ↓gate_tf, ↓gate_ft, ↓gate_undef, ↓o_bind, ↓stay_v, ↓pop_cons, ↓fin_nil, Option.isNone_none, Option.isNone_some, Bool.not_true, Bool.not_false, Nat.zero_add, decide_true, decide_false, if_true, if_false, Bool.false_eq_true, ↓reduceIte]
          rw [show Value.int .u8 (d.toNat : Int) = bv d from rfl]
          refine lower_spec ?_
          rw [or32c hr, show bv d = .int .u8 (d.toNat : Int) from rfl]
          try simp only [↓o_nil, ↓o_field, ↓o_add, ↓o_sub, ↓o_mul, ↓o_lss, ↓o_leq, ↓o_gtr, ↓o_geq, ↓o_not, ↓o_pick, ↓o_eqInt, ↓o_neInt, ↓o_eqBool, ↓o_neBool, ↓o_eqPtr, ↓o_nePtr, ↓o_eqPtr', ↓o_eqSl, ↓o_neSl, ↓o_eqStr, ↓o_neStr, ↓o_len, ↓o_lenS, ↓o_min, ↓o_max, ↓o_extract, ↓o_convInt, ↓cd_true, ↓cd_false, ↓gate_tt, ↓gate_ff, ↓gate_tf, ↓gate_ft, ↓gate_undef, ↓o_bind, ↓stay_v, ↓pop_cons, ↓fin_nil, Option.isNone_none, Option.isNone_some, Bool.not_true, Bool.not_false, Nat.zero_add, decide_true, decide_false, if_true, if_false, Bool.false_eq_true, ↓reduceIte]
          refine hkj2 _ _ ⟨?_, h⟩
          have e : hexv d = d.toNat - 87 := by unfold hexv; rw [if_neg (by omega)]
          rw [e, IntKind.wrap_u8, IntKind.wrap_u8]
          congr 3
          omega
      · clear h
        rintro σ w ⟨rfl, h⟩
        rw [pop_cons, pop_cons, fin_nil, o_convInt, show IntKind.u8.wrap 16 = 16 by rw [IntKind.wrap_u8]; rfl, o_geq, decide_eq_false (by omega), cd_false, o_geq, decide_eq_false (by omega), cd_false, o_convInt, show IntKind.u64.wrap 16 = 16 by rw [IntKind.wrap_u64]; rfl, o_mul,
          show IntKind.u64.wrap ((hexVal (l.take i) : Int) * 16) = ((hexVal (l.take i) * 16 : Nat) : Int) by rw [IntKind.wrap_u64]; omega, o_convInt, show IntKind.u64.wrap (hexv d : Int) = (hexv d : Int) by rw [IntKind.wrap_u64]; omega, o_add,
          show IntKind.u64.wrap (((hexVal (l.take i) * 16 : Nat) : Int) + (hexv d : Int)) = ((hexVal (l.take (i + 1)) : Nat) : Int) by rw [IntKind.wrap_u64, hnext]; omega, o_lss, decide_eq_false (by omega)]
        simp only [decide_eq_false (show ¬ (18446744073709551615 : Int) < (hexVal (l.take (i + 1)) : Int) by omega), ↓o_nil, ↓o_field, ↓o_add, ↓o_sub, ↓o_mul, ↓o_lss, ↓o_leq, ↓o_gtr, ↓o_geq, ↓o_not, ↓o_pick, ↓o_eqInt, ↓o_neInt, ↓o_eqBool, ↓o_neBool, ↓o_eqPtr, ↓o_nePtr, ↓o_eqPtr', ↓o_eqSl, ↓o_neSl, ↓o_eqStr, ↓o_neStr, ↓o_len, ↓o_lenS, ↓o_min, ↓o_max, ↓o_extract, ↓o_convInt, ↓cd_true, ↓cd_false, ↓gate_tt, ↓gate_ff, ↓gate_tf, ↓gate_ft, ↓gate_undef, ↓o_bind, ↓stay_v, ↓pop_cons, ↓fin_nil, Option.isNone_none, Option.isNone_some, Bool.not_true, Bool.not_false, Nat.zero_add, decide_true, decide_false, if_true, if_false, Bool.false_eq_true, ↓reduceIte]
        exact hkj _ _ ⟨rfl, h⟩
    · clear h
      rintro σ w ⟨rfl, h⟩
      rw [pop_cons, pop_cons, fin_nil, o_add, i64_of (by omega) (by omega)]
      exact hag (l.length - (i + 1)) _ _ (by omega) ⟨i + 1, rfl, rfl, by omega, h⟩
  · have hi2 : i = l.length := by omega
    subst hi2
    rw [List.take_length, hfin]
    simp only [↓o_nil, ↓o_field, ↓o_add, ↓o_sub, ↓o_mul, ↓o_lss, ↓o_leq, ↓o_gtr, ↓o_geq, ↓o_not, ↓o_pick, ↓o_eqInt, ↓o_neInt, ↓o_eqBool, ↓o_neBool, ↓o_eqPtr, ↓o_nePtr, ↓o_eqPtr', ↓o_eqSl, ↓o_neSl, ↓o_eqStr, ↓o_neStr, ↓o_len, ↓o_lenS, ↓o_min, ↓o_max, ↓o_extract, ↓o_convInt, ↓cd_true, ↓cd_false, ↓gate_tt, ↓gate_ff, ↓gate_tf, ↓gate_ft, ↓gate_undef, ↓o_bind, ↓stay_v, ↓pop_cons, ↓fin_nil, Option.isNone_none, Option.isNone_some, Bool.not_true, Bool.not_false, Nat.zero_add, decide_true, decide_false, if_true, if_false, Bool.false_eq_true, ↓reduceIte]
    exact k w h.drop
theorem neNil {n : Nat} {K : Value → World → Prop} (k : K (.bool false) w) : pvv prog (oEq .neq 151 (.tmp n) (.const .nilIface) .nilIface .nilIface) w K := by
  refine pvv_of (v := .bool false) (fun w => ?_) k
  kernel_rfl
def toNum (l : List UInt8) : Int × Int :=
  if l = [] ∨ ((l.getD 0 0).toNat : Int) ≠ 97 + l.length - 1 ∨ 17 < l.length then (0, 3)
  else if [48] <+: l.drop 1 ∨ ¬ ∀ c ∈ l.drop 1, c ∈ hexSet then (0, 3)
  else if 4611686018427387904 < hexVal (l.drop 1) then (0, 2) else ((hexVal (l.drop 1) : Int), 0)
theorem ToNumber_spec (h : sat E w H) {l : List UInt8} (hl : l.length ≤ 140737488351232) (k : ∀ w', sat E w' H → K (.tuple #[.int .i64 (toNum l).1, .int .i64 (toNum l).2]) w') : Calls prog 59 #[tv l] w (Ret K) := by
  have e0 : (.string ⟨#[]⟩ : Value) = tv [] := rfl
  have e48 : (.string ⟨#[48]⟩ : Value) = tv [48] := rfl
  have eh : (.string ⟨#[48, 49, 50, 51, 52, 53, 54, 55, 56, 57, 97, 98, 99, 100, 101, 102]⟩ : Value) = tv hexSet := rfl
  refine c59 ?_
  unfold B59
  rw [e0, e48, eh, o_eqT]
  have bad : (l = [] ∨ ((l.getD 0 0).toNat : Int) ≠ 97 + l.length - 1 ∨ 17 < l.length) → ∀ w, sat E w H → K (.tuple #[.int .i64 0, .int .i64 3]) w := fun hb w h => by
    have := k w h
    unfold toNum at this
    rw [if_pos hb] at this
    exact this
  by_cases h0 : l = []
  · simp only [decide_eq_true h0, ↓o_nil, ↓o_field, ↓o_add, ↓o_sub, ↓o_mul, ↓o_lss, ↓o_leq, ↓o_gtr, ↓o_geq, ↓o_not, ↓o_pick, ↓o_eqInt, ↓o_neInt, ↓o_eqBool, ↓o_neBool, ↓o_eqPtr, ↓o_nePtr, ↓o_eqPtr', ↓o_eqSl, ↓o_neSl, ↓o_eqStr, ↓o_neStr, ↓o_len, ↓o_lenS, ↓o_min, ↓o_max, ↓o_extract, ↓o_convInt, ↓cd_true, ↓cd_false, ↓gate_tt, ↓gate_ff, ↓gate_tf, ↓gate_ft, ↓gate_undef, ↓o_bind, ↓stay_v, ↓pop_cons, ↓fin_nil, Option.isNone_none, Option.isNone_some, Bool.not_true, Bool.not_false, Nat.zero_add, decide_true, decide_false, if_true, if_false, Bool.false_eq_true, ↓reduceIte]
    exact bad (.inl h0) w h
  have hpos : 0 < l.length := List.length_pos_iff.2 h0
  simp only [decide_eq_false h0, ↓o_nil, ↓o_field, ↓o_add, ↓o_sub, ↓o_mul, ↓o_lss, ↓o_leq, ↓o_gtr, ↓o_geq, ↓o_not, ↓o_pick, ↓o_eqInt, ↓o_neInt, ↓o_eqBool, ↓o_neBool, ↓o_eqPtr, ↓o_nePtr, ↓o_eqPtr', ↓o_eqSl, ↓o_neSl, ↓o_eqStr, ↓o_neStr, ↓o_len, ↓o_lenS, ↓o_min, ↓o_max, ↓o_extract, ↓o_convInt, ↓cd_true, ↓cd_false, ↓gate_tt, ↓gate_ff, ↓gate_tf, ↓gate_ft, ↓gate_undef, ↓o_bind, ↓stay_v, ↓pop_cons, ↓fin_nil, Option.isNone_none, Option.isNone_some, Bool.not_true, Bool.not_false, Nat.zero_add, decide_true, decide_false, if_true, if_false, Bool.false_eq_true, ↓reduceIte]
  rw [o_indexT (x := 0) (by decide) (by simpa using hpos), show (0 : Int).toNat = 0 from rfl]
  rw [show bv (l.getD 0 0) = .int .u8 ((l.getD 0 0).toNat : Int) from rfl]
  have hb0 := (l.getD 0 0).toNat_lt
  simp only [↓o_lenT, ↓o_nil, ↓o_field, ↓o_add, ↓o_sub, ↓o_mul, ↓o_lss, ↓o_leq, ↓o_gtr, ↓o_geq, ↓o_not, ↓o_pick, ↓o_eqInt, ↓o_neInt, ↓o_eqBool, ↓o_neBool, ↓o_eqPtr, ↓o_nePtr, ↓o_eqPtr', ↓o_eqSl, ↓o_neSl, ↓o_eqStr, ↓o_neStr, ↓o_len, ↓o_lenS, ↓o_min, ↓o_max, ↓o_extract, ↓o_convInt, ↓cd_true, ↓cd_false, ↓gate_tt, ↓gate_ff, ↓gate_tf, ↓gate_ft, ↓gate_undef, ↓o_bind, ↓stay_v, ↓pop_cons, ↓fin_nil, Option.isNone_none, Option.isNone_some, Bool.not_true, Bool.not_false, Nat.zero_add, decide_true, decide_false, if_true, if_false, Bool.false_eq_true, ↓reduceIte]
  rw [i64_of (n := ((l.getD 0 0).toNat : Int)) (by omega) (by omega), i64_of (n := (97 : Int) + l.length) (by omega) (by omega), i64_of (by omega) (by omega)]
  by_cases h1 : ((l.getD 0 0).toNat : Int) = 97 + l.length - 1
  case neg =>
    simp only [decide_eq_false h1, ↓o_nil, ↓o_field, ↓o_add, ↓o_sub, ↓o_mul, ↓o_lss, ↓o_leq, ↓o_gtr, ↓o_geq, ↓o_not, ↓o_pick, ↓o_eqInt, ↓o_neInt, ↓o_eqBool, ↓o_neBool, ↓o_eqPtr, ↓o_nePtr, ↓o_eqPtr', ↓o_eqSl, ↓o_neSl, ↓o_eqStr, ↓o_neStr, ↓o_len, ↓o_lenS, ↓o_min, ↓o_max, ↓o_extract, ↓o_convInt, ↓cd_true, ↓cd_false, ↓gate_tt, ↓gate_ff, ↓gate_tf, ↓gate_ft, ↓gate_undef, ↓o_bind, ↓stay_v, ↓pop_cons, ↓fin_nil, Option.isNone_none, Option.isNone_some, Bool.not_true, Bool.not_false, Nat.zero_add, decide_true, decide_false, if_true, if_false, Bool.false_eq_true, ↓reduceIte]
    exact bad (.inr (.inl h1)) w h
  simp only [decide_eq_true h1, ↓o_lenT, ↓o_nil, ↓o_field, ↓o_add, ↓o_sub, ↓o_mul, ↓o_lss, ↓o_leq, ↓o_gtr, ↓o_geq, ↓o_not, ↓o_pick, ↓o_eqInt, ↓o_neInt, ↓o_eqBool, ↓o_neBool, ↓o_eqPtr, ↓o_nePtr, ↓o_eqPtr', ↓o_eqSl, ↓o_neSl, ↓o_eqStr, ↓o_neStr, ↓o_len, ↓o_lenS, ↓o_min, ↓o_max, ↓o_extract, ↓o_convInt, ↓cd_true, ↓cd_false, ↓gate_tt, ↓gate_ff, ↓gate_tf, ↓gate_ft, ↓gate_undef, ↓o_bind, ↓stay_v, ↓pop_cons, ↓fin_nil, Option.isNone_none, Option.isNone_some, Bool.not_true, Bool.not_false, Nat.zero_add, decide_true, decide_false, if_true, if_false, Bool.false_eq_true, ↓reduceIte]
  by_cases h2 : (17 : Int) < l.length
  · simp only [decide_eq_true h2, ↓o_nil, ↓o_field, ↓o_add, ↓o_sub, ↓o_mul, ↓o_lss, ↓o_leq, ↓o_gtr, ↓o_geq, ↓o_not, ↓o_pick, ↓o_eqInt, ↓o_neInt, ↓o_eqBool, ↓o_neBool, ↓o_eqPtr, ↓o_nePtr, ↓o_eqPtr', ↓o_eqSl, ↓o_neSl, ↓o_eqStr, ↓o_neStr, ↓o_len, ↓o_lenS, ↓o_min, ↓o_max, ↓o_extract, ↓o_convInt, ↓cd_true, ↓cd_false, ↓gate_tt, ↓gate_ff, ↓gate_tf, ↓gate_ft, ↓gate_undef, ↓o_bind, ↓stay_v, ↓pop_cons, ↓fin_nil, Option.isNone_none, Option.isNone_some, Bool.not_true, Bool.not_false, Nat.zero_add, decide_true, decide_false, if_true, if_false, Bool.false_eq_true, ↓reduceIte]
    exact bad (.inr (.inr (by omega))) w h
  simp only [decide_eq_false h2, ↓o_nil, ↓o_field, ↓o_add, ↓o_sub, ↓o_mul, ↓o_lss, ↓o_leq, ↓o_gtr, ↓o_geq, ↓o_not, ↓o_pick, ↓o_eqInt, ↓o_neInt, ↓o_eqBool, ↓o_neBool, ↓o_eqPtr, ↓o_nePtr, ↓o_eqPtr', ↓o_eqSl, ↓o_neSl, ↓o_eqStr, ↓o_neStr, ↓o_len, ↓o_lenS, ↓o_min, ↓o_max, ↓o_extract, ↓o_convInt, ↓cd_true, ↓cd_false, ↓gate_tt, ↓gate_ff, ↓gate_tf, ↓gate_ft, ↓gate_undef, ↓o_bind, ↓stay_v, ↓pop_cons, ↓fin_nil, Option.isNone_none, Option.isNone_some, Bool.not_true, Bool.not_false, Nat.zero_add, decide_true, decide_false, if_true, if_false, Bool.false_eq_true, ↓reduceIte]
  have hno : ¬ (l = [] ∨ ((l.getD 0 0).toNat : Int) ≠ 97 + l.length - 1 ∨ 17 < l.length) := by
    rintro (h | h | h)
    · exact h0 h
    · exact h h1
    · omega
  unfold toNum at k
  rw [if_neg hno] at k
  rw [o_sliceT_l (by omega) (by omega), show (1 : Int).toNat = 1 from rfl]
  generalize hds : l.drop 1 = ds at k
  have hdl : ds.length ≤ 16 := by rw [← hds, List.length_drop]; omega
  refine HasPrefix_spec ?_
  by_cases h3 : [48] <+: ds
  · simp only [decide_eq_true h3, ↓o_nil, ↓o_field, ↓o_add, ↓o_sub, ↓o_mul, ↓o_lss, ↓o_leq, ↓o_gtr, ↓o_geq, ↓o_not, ↓o_pick, ↓o_eqInt, ↓o_neInt, ↓o_eqBool, ↓o_neBool, ↓o_eqPtr, ↓o_nePtr, ↓o_eqPtr', ↓o_eqSl, ↓o_neSl, ↓o_eqStr, ↓o_neStr, ↓o_len, ↓o_lenS, ↓o_min, ↓o_max, ↓o_extract, ↓o_convInt, ↓cd_true, ↓cd_false, ↓gate_tt, ↓gate_ff, ↓gate_tf, ↓gate_ft, ↓gate_undef, ↓o_bind, ↓stay_v, ↓pop_cons, ↓fin_nil, Option.isNone_none, Option.isNone_some, Bool.not_true, Bool.not_false, Nat.zero_add, decide_true, decide_false, if_true, if_false, Bool.false_eq_true, ↓reduceIte]
    have := k w h
    rw [if_pos (.inl h3)] at this
    exact this
  simp only [decide_eq_false h3, ↓o_nil, ↓o_field, ↓o_add, ↓o_sub, ↓o_mul, ↓o_lss, ↓o_leq, ↓o_gtr, ↓o_geq, ↓o_not, ↓o_pick, ↓o_eqInt, ↓o_neInt, ↓o_eqBool, ↓o_neBool, ↓o_eqPtr, ↓o_nePtr, ↓o_eqPtr', ↓o_eqSl, ↓o_neSl, ↓o_eqStr, ↓o_neStr, ↓o_len, ↓o_lenS, ↓o_min, ↓o_max, ↓o_extract, ↓o_convInt, ↓cd_true, ↓cd_false, ↓gate_tt, ↓gate_ff, ↓gate_tf, ↓gate_ft, ↓gate_undef, ↓o_bind, ↓stay_v, ↓pop_cons, ↓fin_nil, Option.isNone_none, Option.isNone_some, Bool.not_true, Bool.not_false, Nat.zero_add, decide_true, decide_false, if_true, if_false, Bool.false_eq_true, ↓reduceIte]
  refine Trim_spec ds (by decide) (by decide) (by decide) (by omega) h fun w h => ?_
  rw [o_neT]
  by_cases h4 : ∀ c ∈ ds, c ∈ hexSet
  case neg =>
    have e : decide (trimL hexSet (trimR hexSet ds) = []) = false := decide_eq_false fun e => h4 (trim_all.1 e)
    simp only [e, ↓o_nil, ↓o_field, ↓o_add, ↓o_sub, ↓o_mul, ↓o_lss, ↓o_leq, ↓o_gtr, ↓o_geq, ↓o_not, ↓o_pick, ↓o_eqInt, ↓o_neInt, ↓o_eqBool, ↓o_neBool, ↓o_eqPtr, ↓o_nePtr, ↓o_eqPtr', ↓o_eqSl, ↓o_neSl, ↓o_eqStr, ↓o_neStr, ↓o_len, ↓o_lenS, ↓o_min, ↓o_max, ↓o_extract, ↓o_convInt, ↓cd_true, ↓cd_false, ↓gate_tt, ↓gate_ff, ↓gate_tf, ↓gate_ft, ↓gate_undef, ↓o_bind, ↓stay_v, ↓pop_cons, ↓fin_nil, Option.isNone_none, Option.isNone_some, Bool.not_true, Bool.not_false, Nat.zero_add, decide_true, decide_false, if_true, if_false, Bool.false_eq_true, ↓reduceIte]
    have := k w h
    rw [if_pos (.inr h4)] at this
    exact this
  rw [decide_eq_true (trim_all.2 h4)]
  simp only [↓o_nil, ↓o_field, ↓o_add, ↓o_sub, ↓o_mul, ↓o_lss, ↓o_leq, ↓o_gtr, ↓o_geq, ↓o_not, ↓o_pick, ↓o_eqInt, ↓o_neInt, ↓o_eqBool, ↓o_neBool, ↓o_eqPtr, ↓o_nePtr, ↓o_eqPtr', ↓o_eqSl, ↓o_neSl, ↓o_eqStr, ↓o_neStr, ↓o_len, ↓o_lenS, ↓o_min, ↓o_max, ↓o_extract, ↓o_convInt, ↓cd_true, ↓cd_false, ↓gate_tt, ↓gate_ff, ↓gate_tf, ↓gate_ft, ↓gate_undef, ↓o_bind, ↓stay_v, ↓pop_cons, ↓fin_nil, Option.isNone_none, Option.isNone_some, Bool.not_true, Bool.not_false, Nat.zero_add, decide_true, decide_false, if_true, if_false, Bool.false_eq_true, ↓reduceIte]
  have hn : ¬ ([48] <+: ds ∨ ¬ ∀ c ∈ ds, c ∈ hexSet) := by
    rintro (h | h)
    · exact h3 h
    · exact h h4
  rw [if_neg hn] at k
  rw [o_catT (by simp; omega)]
  refine c75 ?_
  unfold B75
  rw [show [48] ++ ds = 48 :: ds from rfl]
  refine Parse_spec h4 hdl h fun w h => ?_
  rw [o_extract, o_extract]
  refine neNil ?_
  rw [cd_false]
  simp only [↓o_nil, ↓o_field, ↓o_add, ↓o_sub, ↓o_mul, ↓o_lss, ↓o_leq, ↓o_gtr, ↓o_geq, ↓o_not, ↓o_pick, ↓o_eqInt, ↓o_neInt, ↓o_eqBool, ↓o_neBool, ↓o_eqPtr, ↓o_nePtr, ↓o_eqPtr', ↓o_eqSl, ↓o_neSl, ↓o_eqStr, ↓o_neStr, ↓o_len, ↓o_lenS, ↓o_min, ↓o_max, ↓o_extract, ↓o_convInt, ↓cd_true, ↓cd_false, ↓gate_tt, ↓gate_ff, ↓gate_tf, ↓gate_ft, ↓gate_undef, ↓o_bind, ↓stay_v, ↓pop_cons, ↓fin_nil, Option.isNone_none, Option.isNone_some, Bool.not_true, Bool.not_false, Nat.zero_add, decide_true, decide_false, if_true, if_false, Bool.false_eq_true, ↓reduceIte]
  refine neNil ?_
  have hv := hexVal_lt h4
  have hv2 : hexVal ds < 18446744073709551616 := Nat.lt_of_lt_of_le hv (by
    calc 16 ^ ds.length ≤ 16 ^ 16 := Nat.pow_le_pow_right (by decide) hdl
      _ = 18446744073709551616 := by decide)
  by_cases h5 : 4611686018427387904 < hexVal ds
  · simp only [decide_eq_true (show (4611686018427387904 : Int) < (hexVal ds : Int) by omega), ↓o_nil, ↓o_field, ↓o_add, ↓o_sub, ↓o_mul, ↓o_lss, ↓o_leq, ↓o_gtr, ↓o_geq, ↓o_not, ↓o_pick, ↓o_eqInt, ↓o_neInt, ↓o_eqBool, ↓o_neBool, ↓o_eqPtr, ↓o_nePtr, ↓o_eqPtr', ↓o_eqSl, ↓o_neSl, ↓o_eqStr, ↓o_neStr, ↓o_len, ↓o_lenS, ↓o_min, ↓o_max, ↓o_extract, ↓o_convInt, ↓cd_true, ↓cd_false, ↓gate_tt, ↓gate_ff, ↓gate_tf, ↓gate_ft, ↓gate_undef, ↓o_bind, ↓stay_v, ↓pop_cons, ↓fin_nil, Option.isNone_none, Option.isNone_some, Bool.not_true, Bool.not_false, Nat.zero_add, decide_true, decide_false, if_true, if_false, Bool.false_eq_true, ↓reduceIte]
    have := k w h
    rw [if_pos h5] at this
    exact this
  · simp only [decide_eq_false (show ¬ (4611686018427387904 : Int) < (hexVal ds : Int) by omega), ↓o_nil, ↓o_field, ↓o_add, ↓o_sub, ↓o_mul, ↓o_lss, ↓o_leq, ↓o_gtr, ↓o_geq, ↓o_not, ↓o_pick, ↓o_eqInt, ↓o_neInt, ↓o_eqBool, ↓o_neBool, ↓o_eqPtr, ↓o_nePtr, ↓o_eqPtr', ↓o_eqSl, ↓o_neSl, ↓o_eqStr, ↓o_neStr, ↓o_len, ↓o_lenS, ↓o_min, ↓o_max, ↓o_extract, ↓o_convInt, ↓cd_true, ↓cd_false, ↓gate_tt, ↓gate_ff, ↓gate_tf, ↓gate_ft, ↓gate_undef, ↓o_bind, ↓stay_v, ↓pop_cons, ↓fin_nil, Option.isNone_none, Option.isNone_some, Bool.not_true, Bool.not_false, Nat.zero_add, decide_true, decide_false, if_true, if_false, Bool.false_eq_true, ↓reduceIte]
    have := k w h
    rw [if_neg h5] at this
    try rw [i64_of (by omega) (by omega)]
    exact this
end Go.Proofs.YtmnaalpjhkkglaaGreatDoor

/-
  The book of passwords: records, how they are held; a book without users.
-/
set_option linter.all false
set_option maxRecDepth 100000
namespace Hold.Mk
open Go Hold
variable {κ : Type} [DecidableEq κ] [KeyEnc κ] {P : Program} {E : World0} {w : World} {H R : HP} {K : Value → World → Prop}
section
variable {t kt vt b : Nat} {l : List (κ × Value)} {k : κ} {z : Value}
theorem run_look (h : sat E w H) [i : Ul P t (.map kt vt)] [j : KeyOk P kt κ] [q : ZeroC P vt z] [s : OwnM H b l R] :
    (Instr.lookup t (.map (some b)) (ke k) true).run P w = .ok (match lookM l k with | some v => .tuple #[v, .bool true] | none => .tuple #[z, .bool false]) w := by
  obtain ⟨ns, c, st, hp⟩ := sat_omap.1 (h.perm s.eq)
  have hb := hp.pts_get
  have hf := j.find k st.len w
  unfold lookM
  cases hx : findM l k with
  | none => rw [hx] at hf; simp [Instr.lookup, run_underlying' i.ul, getObj_at hb, j.check, hf, run_zero q]
  | some y => rw [hx] at hf; simp [Instr.lookup, run_underlying' i.ul, getObj_at hb, j.check, hf]
theorem look_no (h : sat E w H) [i : Ul P t (.map kt vt)] [j : KeyOk P kt κ] [q : ZeroC P vt z] [s : OwnM H b l R] (hx : lookM l k = none) (kk : K (.tuple #[z, .bool false]) w) : ldv P (Instr.lookup t (.map (some b)) (ke k) true) w K := by
  have := run_look (P := P) (t := t) (kt := kt) (vt := vt) (b := b) (l := l) (R := R) (z := z) (k := k) h
  rw [hx] at this
  exact ldv_of this kk
theorem look_yes (h : sat E w H) [i : Ul P t (.map kt vt)] [j : KeyOk P kt κ] [q : ZeroC P vt z] [s : OwnM H b l R] {v : Value} (hx : lookM l k = some v) (kk : K (.tuple #[v, .bool true]) w) : ldv P (Instr.lookup t (.map (some b)) (ke k) true) w K := by
  have := run_look (P := P) (t := t) (kt := kt) (vt := vt) (b := b) (l := l) (R := R) (z := z) (k := k) h
  rw [hx] at this
  exact ldv_of this kk
theorem st_no (h : sat E w H) {g : Gd} {A : Prop} [i : Ul P t (.map kt vt)] [j : KeyOk P kt κ] [q : ZeroC P vt z] [s : OwnM H b l R] (hx : lookM l k = none) (kk : A) : stv P g (Instr.lookup t (.map (some b)) (ke k) true) (.tuple #[z, .bool false]) w A := by
  have := run_look (P := P) (t := t) (kt := kt) (vt := vt) (b := b) (l := l) (R := R) (z := z) (k := k) h
  rw [hx] at this
  exact stv_of this kk
theorem st_yes (h : sat E w H) {g : Gd} {A : Prop} [i : Ul P t (.map kt vt)] [j : KeyOk P kt κ] [q : ZeroC P vt z] [s : OwnM H b l R] {v : Value} (hx : lookM l k = some v) (kk : A) : stv P g (Instr.lookup t (.map (some b)) (ke k) true) (.tuple #[v, .bool true]) w A := by
  have := run_look (P := P) (t := t) (kt := kt) (vt := vt) (b := b) (l := l) (R := R) (z := z) (k := k) h
  rw [hx] at this
  exact stv_of this kk
end
end Hold.Mk
namespace Go.Proofs.YtmnaalpjhkkglaaGreatDoor
open Go Hold
variable {E : World0} {w : World} {H R : HP} {K : Value → World → Prop}
theorem flds54 : ∃ f g : Field, (prog.fieldsOf 54).toList = [f, g] ∧ (f.name == "_") = false ∧ (g.name == "_") = false ∧ f.type = 9 ∧ f.offset = 0 ∧ g.type = 9 ∧ g.offset = 1 :=
  ⟨(prog.fieldsOf 54).toList.getD 0 default, (prog.fieldsOf 54).toList.getD 1 default, by kernel_rfl, by kernel_rfl, by kernel_rfl, by kernel_rfl, by kernel_rfl, by kernel_rfl, by kernel_rfl⟩
instance keyok54 : Mk.KeyOk prog 54 K2 where
  find := Mk.find_ask (kd := .struct (prog.fieldsOf 54)) (by kernel_rfl) (fun _ _ => rfl) (fun k k' w => by
    show (Op.equalIn 10000 54 (.agg #[tv k.t, tv k.n]) (.agg #[tv k'.t, tv k'.n])).run prog w = _
    obtain ⟨f, g, e, h1, h2, t1, o1, t2, o2⟩ := flds54
    rw [run_equalIn_struct w 9999 54 _ _ (by kernel_rfl) (by kernel_rfl), run_eq2 e h1 h2 t1 o1 t2 o2 9998]
    congr 1
    rw [Bool.eq_iff_iff]
    obtain ⟨a, b⟩ := k
    obtain ⟨c, d⟩ := k'
    simp)
  check := fun {k b w} => by kernel_rfl
  bits := fun k => by
    show Instr.sameBits (9999 + 1) (.agg #[tv k.t, tv k.n]) (.agg #[tv k.t, tv k.n]) = true
    simp [Instr.sameBits, tv, Mk.beq_arr]
/-- A record without recovery codes. -/
structure Rc where
  tr : Nat
  un : Nat
  h : List UInt8
  salt : List UInt8
  cost : Nat
def rcc (r : Rc) : List Value := [.int .i64 (r.tr : Int), .int .i64 (r.un : Int)] ++ r.h.map bv ++ [tv r.salt, .int .i64 (r.cost : Int), .slice none 0 0]
def zrc : Rc := ⟨0, 0, List.replicate 32 0, [], 0⟩
theorem rcc_len {r : Rc} (hr : r.h.length = 32) : (rcc r).length = 37 := by simp [rcc, hr]
theorem rcc_one (r : Rc) : ∀ v ∈ rcc r, v.oneCell' = true := by
  intro v hv
  unfold rcc at hv
  rcases List.mem_append.1 hv with hv | hv
  · rcases List.mem_append.1 hv with hv | hv
    · simp at hv; rcases hv with rfl | rfl <;> rfl
    · exact bv_one _ v hv
  · simp at hv; rcases hv with rfl | rfl | rfl <;> rfl
theorem rc_tr (r : Rc) : (rcc r)[0]? = some (.int .i64 (r.tr : Int)) := rfl
theorem rc_un (r : Rc) : (rcc r)[1]? = some (.int .i64 (r.un : Int)) := rfl
theorem rc_h {r : Rc} (hr : r.h.length = 32) : ((rcc r).drop 2).take 32 = r.h.map bv := part_at [.int .i64 (r.tr : Int), .int .i64 (r.un : Int)] _ [tv r.salt, .int .i64 (r.cost : Int), .slice none 0 0] (by simp [rcc]) rfl (by simp [hr])
theorem rc_salt {r : Rc} (hr : r.h.length = 32) : (rcc r)[34]? = some (tv r.salt) := part_cell ([.int .i64 (r.tr : Int), .int .i64 (r.un : Int)] ++ r.h.map bv) [.int .i64 (r.cost : Int), .slice none 0 0] (by simp [rcc]) (by simp [hr])
theorem rc_cost {r : Rc} (hr : r.h.length = 32) : (rcc r)[35]? = some (.int .i64 (r.cost : Int)) := part_cell ([.int .i64 (r.tr : Int), .int .i64 (r.un : Int)] ++ r.h.map bv ++ [tv r.salt]) [.slice none 0 0] (by simp [rcc]) (by simp [hr])
theorem rc_codes {r : Rc} (hr : r.h.length = 32) : (rcc r)[36]? = some (.slice none 0 0) := part_cell ([.int .i64 (r.tr : Int), .int .i64 (r.un : Int)] ++ r.h.map bv ++ [tv r.salt, .int .i64 (r.cost : Int)]) [] (by simp [rcc]) (by simp [hr])
theorem rc_put0 (r : Rc) (n : Nat) : (rcc r).set 0 (.int .i64 (n : Int)) = rcc { r with tr := n } := rfl
theorem rc_put1 (r : Rc) (n : Nat) : (rcc r).set 1 (.int .i64 (n : Int)) = rcc { r with un := n } := rfl
theorem rc_in (h : sat E w H) {r : Rc} (hr : r.h.length = 32) {K : Value → World → Prop} (k : ∀ b w', sat E w' (pts b (.cells (rcc r).toArray 105 (0, 0)) * H) → K (.pointer (some ⟨b, 0, none⟩)) w') :
    efv prog (Instr.alloc 105 true (.tuple #[])) w fun x' w => efu prog (Instr.storeAt 105 x' (.agg (rcc r).toArray)) w fun _ w => K x' w := by
  refine alloc_sl h fun b w h => ?_
  have h : sat E w (pts b (.cells (rcc zrc).toArray 105 (0, 0)) * H) := h
  exact store_all (b := b) h (xs := rcc zrc) (vs := rcc r) rfl (rcc_len hr) (rcc_one r) fun w h => k b w h
theorem rc_ret (h : sat E w H) {b : Nat} {r : Rc} {zs : List Value} (hr : r.h.length = 32) [Own H b (.cells zs.toArray 105 (0, 0)) R] (hz : zs.length = 37) {e : Int}
    (k : ∀ w', sat E w' (pts b (.cells (rcc r).toArray 105 (0, 0)) * R) → K (.tuple #[.agg (rcc r).toArray, .int .i64 e]) w') :
    efu prog (Instr.storeAt 105 (.pointer (some ⟨b, 0, none⟩)) (.agg (rcc r).toArray)) w fun _ w => ∃ x, (do loadVar 105 (← asAddr (.pointer (some ⟨b, 0, none⟩)))).run prog w = .ok x w ∧ K (.tuple #[x, .int .i64 e]) w :=
  res_all (K := fun x w => K (.tuple #[x, .int .i64 e]) w) (b := b) h hz (rcc_len hr) (rcc_one r) k
/-- How a book is held. -/
abbrev bkI (p m : Nat) (l : List (K2 × Value)) (R : HP) : HP := pts p (.cells [Value.map (some m)].toArray 100 (0, 0)) * (Mk.omap m l * R)
theorem BNew_spec (h : sat E w R) (k : ∀ p m w', sat E w' (bkI p m [] R) → K (.pointer (some ⟨p, 0, none⟩)) w') : Calls prog 16 #[] w (Ret K) := by
  refine c16 ?_
  unfold B16
  refine Mk.make_map K2 h fun m w h => ?_
  refine pvv_of (v := .agg [Value.map (some m)].toArray) (fun w => by kernel_rfl) ?_
  refine box_sl h fun p w h => k p m w ?_
  exact h
def lenTab : List UInt8 := [0, 1, 2, 2, 3, 3, 3, 3, 4, 4, 4, 4, 4, 4, 4, 4, 5, 5, 5, 5, 5, 5, 5, 5, 5, 5, 5, 5, 5, 5, 5, 5, 6, 6, 6, 6, 6, 6, 6, 6, 6, 6, 6, 6, 6, 6, 6, 6, 6, 6, 6, 6, 6, 6, 6, 6, 6, 6, 6, 6, 6, 6, 6, 6, 7, 7, 7, 7, 7, 7, 7, 7, 7, 7, 7, 7, 7, 7, 7, 7, 7, 7, 7, 7, 7, 7, 7, 7, 7, 7, 7, 7, 7, 7, 7, 7, 7, 7, 7, 7, 7, 7, 7, 7, 7, 7, 7, 7, 7, 7, 7, 7, 7, 7, 7, 7, 7, 7, 7, 7, 7, 7, 7, 7, 7, 7, 7, 7, 8, 8, 8, 8, 8, 8, 8, 8, 8, 8, 8, 8, 8, 8, 8, 8, 8, 8, 8, 8, 8, 8, 8, 8, 8, 8, 8, 8, 8, 8, 8, 8, 8, 8, 8, 8, 8, 8, 8, 8, 8, 8, 8, 8, 8, 8, 8, 8, 8, 8, 8, 8, 8, 8, 8, 8, 8, 8, 8, 8, 8, 8, 8, 8, 8, 8, 8, 8, 8, 8, 8, 8, 8, 8, 8, 8, 8, 8, 8, 8, 8, 8, 8, 8, 8, 8, 8, 8, 8, 8, 8, 8, 8, 8, 8, 8, 8, 8, 8, 8, 8, 8, 8, 8, 8, 8, 8, 8, 8, 8, 8, 8, 8, 8, 8, 8, 8, 8, 8, 8, 8, 8, 8, 8, 8, 8, 8, 8]
theorem Len_spec {n : Nat} (hn : n ≤ 255) (h : sat E w H) (k : ∀ (z : Int) w', sat E w' H → K (.int .i64 z) w') : Calls prog 64 #[.int .u64 (n : Int)] w (Ret K) := by
  refine c64 ?_
  unfold B64
  rw [cd_false]
  refine c89 ?_
  unfold B89
  unfold jn
  simp only [decide_eq_false (show ¬ (4294967296 : Int) ≤ (n : Int) by omega), decide_eq_false (show ¬ (65536 : Int) ≤ (n : Int) by omega), decide_eq_false (show ¬ (256 : Int) ≤ (n : Int) by omega), ↓o_nil, ↓o_field, ↓o_add, ↓o_sub, ↓o_mul, ↓o_lss, ↓o_leq, ↓o_gtr, ↓o_geq, ↓o_not, ↓o_pick, ↓o_eqInt, ↓o_neInt, ↓o_eqBool, ↓o_neBool, ↓o_eqPtr, ↓o_nePtr, ↓o_eqPtr', ↓o_eqSl, ↓o_neSl, ↓o_eqStr, ↓o_neStr, ↓o_len, ↓o_lenS, ↓o_min, ↓o_max, ↓o_extract, ↓o_convInt, ↓cd_true, ↓cd_false, ↓gate_tt, ↓gate_ff, ↓gate_tf, ↓gate_ft, ↓gate_undef, ↓o_bind, ↓stay_v, ↓pop_cons, ↓fin_nil, Option.isNone_none, Option.isNone_some, Bool.not_true, Bool.not_false, Nat.zero_add, decide_true, decide_false, if_true, if_false, Bool.false_eq_true, ↓reduceIte]
  rw [show IntKind.u8.wrap (n : Int) = (n : Int) by rw [IntKind.wrap_u8]; omega]
  refine (o_indexT (l := lenTab) (k := .u8) (x := (n : Int)) (by omega) (by show n < 256; omega)).mpr ?_
  unfold bv
  simp only [↓o_nil, ↓o_field, ↓o_add, ↓o_sub, ↓o_mul, ↓o_lss, ↓o_leq, ↓o_gtr, ↓o_geq, ↓o_not, ↓o_pick, ↓o_eqInt, ↓o_neInt, ↓o_eqBool, ↓o_neBool, ↓o_eqPtr, ↓o_nePtr, ↓o_eqPtr', ↓o_eqSl, ↓o_neSl, ↓o_eqStr, ↓o_neStr, ↓o_len, ↓o_lenS, ↓o_min, ↓o_max, ↓o_extract, ↓o_convInt, ↓cd_true, ↓cd_false, ↓gate_tt, ↓gate_ff, ↓gate_tf, ↓gate_ft, ↓gate_undef, ↓o_bind, ↓stay_v, ↓pop_cons, ↓fin_nil, Option.isNone_none, Option.isNone_some, Bool.not_true, Bool.not_false, Nat.zero_add, decide_true, decide_false, if_true, if_false, Bool.false_eq_true, ↓reduceIte]
  exact k _ w h
/-! Sorting rows of one element at most. -/
theorem SortR_spec {a : Option Addr} {n c : Nat} {fv : Value} (hn : n ≤ 1) (h : sat E w H) (k : ∀ w', sat E w' H → K (.tuple #[]) w') : Calls prog 41 #[.slice a n c, fv] w (Ret K) := by
  refine c41 ?_
  unfold B41
  rw [o_len, o_convInt, show IntKind.u64.wrap (n : Int) = (n : Int) by rw [IntKind.wrap_u64]; omega]
  refine Len_spec (by omega) h fun z w h => ?_
  refine c63 ?_
  unfold B63
  refine lp_nat (fun r σ w => ∃ (z : Int), σ = [.int .i64 0, .int .i64 (n : Int), .int .i64 z, .bool true, .bool true] ∧ r = 0 ∧ sat E w H) 0 ⟨z, rfl, rfl, h⟩ ?_
  clear h
  rintro r σ w again ⟨z, rfl, rfl, h⟩ hag
  rw [pop_cons, pop_cons, pop_cons, pop_cons, pop_cons, fin_nil, o_sub, i64_of (by omega) (by omega), o_leq, decide_eq_true (by omega), cd_true]
  refine c80 ?_
  unfold B80
  rw [o_add, i64_of (by omega) (by omega)]
  refine lp_nat (fun r σ w => σ = [.int .i64 1] ∧ r = 0 ∧ sat E w H) 0 ⟨rfl, rfl, h⟩ ?_
  clear h hag
  rintro r σ w again ⟨rfl, rfl, h⟩ hag
  rw [pop_cons, fin_nil, o_lss, decide_eq_false (by omega), cd_false]
  exact k w h
theorem SortO_spec {a : Option Addr} {n c : Nat} {fv : Value} (hn : n ≤ 1) (h : sat E w H) (k : ∀ w', sat E w' H → K (.tuple #[]) w') : Calls prog 76 #[.slice a n c, fv] w (Ret K) := by
  refine c76 ?_
  unfold B76
  rw [o_len, o_convInt, show IntKind.u64.wrap (n : Int) = (n : Int) by rw [IntKind.wrap_u64]; omega]
  refine Len_spec (by omega) h fun z w h => ?_
  refine c105 ?_
  unfold B105
  refine lp_nat (fun r σ w => ∃ (z : Int), σ = [.int .i64 0, .int .i64 (n : Int), .int .i64 z, .bool true, .bool true] ∧ r = 0 ∧ sat E w H) 0 ⟨z, rfl, rfl, h⟩ ?_
  clear h
  rintro r σ w again ⟨z, rfl, rfl, h⟩ hag
  rw [pop_cons, pop_cons, pop_cons, pop_cons, pop_cons, fin_nil, o_sub, i64_of (by omega) (by omega), o_leq, decide_eq_true (by omega), cd_true]
  refine c134 ?_
  unfold B134
  rw [o_add, i64_of (by omega) (by omega)]
  refine lp_nat (fun r σ w => σ = [.int .i64 1] ∧ r = 0 ∧ sat E w H) 0 ⟨rfl, rfl, h⟩ ?_
  clear h hag
  rintro r σ w again ⟨rfl, rfl, h⟩ hag
  rw [pop_cons, fin_nil, o_lss, decide_eq_false (by omega), cd_false]
  exact k w h
theorem SortT_spec {a : Option Addr} {n c : Nat} (hn : n ≤ 1) (h : sat E w H) (k : ∀ w', sat E w' H → K (.tuple #[]) w') : Calls prog 107 #[.slice a n c] w (Ret K) := by
  refine c107 ?_
  unfold B107
  rw [o_len, o_convInt, show IntKind.u64.wrap (n : Int) = (n : Int) by rw [IntKind.wrap_u64]; omega]
  refine Len_spec (by omega) h fun z w h => ?_
  refine c143 ?_
  unfold B143
  refine lp_nat (fun r σ w => ∃ (z : Int), σ = [.int .i64 0, .int .i64 (n : Int), .int .i64 z, .bool true, .bool true] ∧ r = 0 ∧ sat E w H) 0 ⟨z, rfl, rfl, h⟩ ?_
  clear h
  rintro r σ w again ⟨z, rfl, rfl, h⟩ hag
  rw [pop_cons, pop_cons, pop_cons, pop_cons, pop_cons, fin_nil, o_sub, i64_of (by omega) (by omega), o_leq, decide_eq_true (by omega), cd_true]
  refine c165 ?_
  unfold B165
  rw [o_add, i64_of (by omega) (by omega)]
  refine lp_nat (fun r σ w => σ = [.int .i64 1] ∧ r = 0 ∧ sat E w H) 0 ⟨rfl, rfl, h⟩ ?_
  clear h hag
  rintro r σ w again ⟨rfl, rfl, h⟩ hag
  rw [pop_cons, fin_nil, o_lss, decide_eq_false (by omega), cd_false]
  exact k w h
end Go.Proofs.YtmnaalpjhkkglaaGreatDoor

/-
  A book without users has room; a user is added.
-/
set_option linter.all false
set_option maxRecDepth 100000
namespace Go.Proofs.YtmnaalpjhkkglaaGreatDoor
open Go Hold
variable {E : World0} {w : World} {H R : HP} {K : Value → World → Prop}
def boxB (mb b : Nat) : HP := pts mb (.cells #[.map (some b)] 70 (0, 0))
instance hasB (mb b : Nat) : Has (boxB mb b) mb (.cells [Value.map (some b)].toArray 70 (0, 0)) := ⟨fun h => (h.perm (star_emp _).symm).pts_get⟩
theorem NoKeys_spec {b mb : Nat} {y : Value} (h : sat E w (Mk.omap b ([] : List (List UInt8 × Value)) * (boxB mb b * H)))
    (k : ∀ w', sat E w' (Mk.omap b ([] : List (List UInt8 × Value)) * (boxB mb b * H)) → K (.tuple #[]) w') : Calls prog 108 #[y, .pointer (some ⟨mb, 0, none⟩)] w (Ret K) := by
  refine c108 ?_
  unfold B108
  refine ld_in (b := mb) (v := .map (some b)) h rfl ?_
  refine Mk.range_sl (κ := List UInt8) (b := b) (l := []) h fun i w h => ?_
  refine lp_nat (fun q σ w => σ = [] ∧ sat E w (Mk.omit_ i b ([] : List (List UInt8 × Value)) [] * (boxB mb b * H))) 0 ⟨rfl, h⟩ ?_
  clear h
  rintro q σ w again ⟨rfl, h⟩ hag
  rw [fin_nil]
  refine Mk.next_sl (i := i) (b := b) (l := ([] : List (List UInt8 × Value))) (rest := []) h (fun h0 => ?_) (fun j x w hj hen h => by simp at hj)
  rw [o_extract, cd_false]
  exact k w (Mk.omit_close h)
theorem NoSeq_spec {b mb : Nat} (h : sat E w (Mk.omap b ([] : List (List UInt8 × Value)) * (boxB mb b * H)))
    (k : ∀ w', sat E w' (Mk.omap b ([] : List (List UInt8 × Value)) * (boxB mb b * H)) → K (.slice none 0 0) w') :
    Calls prog 142 #[.slice none 0 0, .func (.func 108) #[] #[.pointer (some ⟨mb, 0, none⟩)]] w (Ret K) := by
  refine c142 ?_
  unfold B142
  refine box_sl h fun sb w h => ?_
  have h : sat E w (pts sb (.cells [Value.slice none 0 0].toArray 39 (0, 0)) * (Mk.omap b ([] : List (List UInt8 × Value)) * (boxB mb b * H))) := h
  refine rng_body h Tryz.func108 (by kernel_rfl) (by kernel_rfl) fun rec D D1 w h hround => ?_
  have h := h.perm (show _ = Mk.omap b ([] : List (List UInt8 × Value)) * (boxB mb b * (pts D1 (rec .ready none) * (pts sb (.cells [Value.slice none 0 0].toArray 39 (0, 0)) * (pts D (.deferred (some [])) * H)))) by ac_rfl)
  refine NoKeys_spec h fun w h => ?_
  refine ⟨.ready, none, h.has, by simp, ?_⟩
  have h := (h.own D1).set (rec .exhausted none)
  simp only [jump]
  refine ld_in (b := sb) (v := .slice none 0 0) h rfl ?_
  refine ⟨h.has, ?_⟩
  have h := (h.own D).set (.deferred none)
  refine k _ ?_
  have h := h.perm (show _ = pts D (.deferred none) * (pts D1 (rec .exhausted none) * (pts sb (.cells [Value.slice none 0 0].toArray 39 (0, 0)) * (Mk.omap b ([] : List (List UInt8 × Value)) * (boxB mb b * H)))) by ac_rfl)
  exact h.drop.drop.drop
section
variable {p m : Nat} {l : List (K2 × Value)}
theorem Tenants0_spec (h : sat E w (bkI p m [] R)) (k : ∀ w', sat E w' (bkI p m [] R) → K (.slice none 0 0) w') : Calls prog 62 #[.pointer (some ⟨p, 0, none⟩)] w (Ret K) := by
  refine c62 ?_
  unfold B62
  simp only [↓o_nil, ↓o_field, ↓o_add, ↓o_sub, ↓o_mul, ↓o_lss, ↓o_leq, ↓o_gtr, ↓o_geq, ↓o_not, ↓o_pick, ↓o_eqInt, ↓o_neInt, ↓o_eqBool, ↓o_neBool, ↓o_eqPtr, ↓o_nePtr, ↓o_eqPtr', ↓o_eqSl, ↓o_neSl, ↓o_eqStr, ↓o_neStr, ↓o_len, ↓o_lenS, ↓o_min, ↓o_max, ↓o_extract, ↓o_convInt, ↓cd_true, ↓cd_false, ↓gate_tt, ↓gate_ff, ↓gate_tf, ↓gate_ft, ↓gate_undef, ↓o_bind, ↓stay_v, ↓pop_cons, ↓fin_nil, Option.isNone_none, Option.isNone_some, Bool.not_true, Bool.not_false, Nat.zero_add, decide_true, decide_false, if_true, if_false, Bool.false_eq_true, ↓reduceIte]
  refine Mk.make_map (List UInt8) h fun q w h => ?_
  refine ld_in (b := p) (v := .map (some m)) h rfl ?_
  refine Mk.range_sl (κ := K2) (b := m) (l := []) h fun i w h => ?_
  have h : sat E w (Mk.omit_ i m ([] : List (K2 × Value)) [] * (Mk.omap q ([] : List (List UInt8 × Value)) * (pts p (.cells [Value.map (some m)].toArray 100 (0, 0)) * R))) := h.perm (by ac_rfl)
  refine lp_nat (fun r σ w => σ = [] ∧ sat E w (Mk.omit_ i m ([] : List (K2 × Value)) [] * (Mk.omap q ([] : List (List UInt8 × Value)) * (pts p (.cells [Value.map (some m)].toArray 100 (0, 0)) * R)))) 0 ⟨rfl, h⟩ ?_
  clear h
  rintro r σ w again ⟨rfl, h⟩ hag
  rw [fin_nil]
  refine Mk.next_sl (i := i) (b := m) (l := ([] : List (K2 × Value))) (rest := []) h (fun h0 => ?_) (fun j x w hj hen h => by simp at hj)
  rw [o_extract, cd_false]
  refine c79 ?_
  unfold B79
  refine box_sl h fun mb w h => ?_
  have h : sat E w (boxB mb q * (Mk.omit_ i m ([] : List (K2 × Value)) [] * (Mk.omap q ([] : List (List UInt8 × Value)) * (pts p (.cells [Value.map (some m)].toArray 100 (0, 0)) * R)))) := h
  refine pvv_of (v := .func (.func 108) #[] #[.pointer (some ⟨mb, 0, none⟩)]) (fun _ => rfl) ?_
  refine c78 ?_
  unfold B78
  refine c106 ?_
  unfold B106
  have h := h.perm (show _ = Mk.omap q ([] : List (List UInt8 × Value)) * (boxB mb q * (Mk.omit_ i m ([] : List (K2 × Value)) [] * (pts p (.cells [Value.map (some m)].toArray 100 (0, 0)) * R))) by ac_rfl)
  refine NoSeq_spec h fun w h => ?_
  refine SortT_spec (by omega) h fun w h => ?_
  have h := Mk.omit_close h.drop.drop
  exact k w (h.perm (by unfold bkI; ac_rfl))
theorem Owners0_spec {t : List UInt8} (h : sat E w (bkI p m [] R)) (k : ∀ w', sat E w' (bkI p m [] R) → K (.slice none 0 0) w') : Calls prog 61 #[.pointer (some ⟨p, 0, none⟩), tv t] w (Ret K) := by
  refine c61 ?_
  unfold B61
  simp only [↓o_nil, ↓o_field, ↓o_add, ↓o_sub, ↓o_mul, ↓o_lss, ↓o_leq, ↓o_gtr, ↓o_geq, ↓o_not, ↓o_pick, ↓o_eqInt, ↓o_neInt, ↓o_eqBool, ↓o_neBool, ↓o_eqPtr, ↓o_nePtr, ↓o_eqPtr', ↓o_eqSl, ↓o_neSl, ↓o_eqStr, ↓o_neStr, ↓o_len, ↓o_lenS, ↓o_min, ↓o_max, ↓o_extract, ↓o_convInt, ↓cd_true, ↓cd_false, ↓gate_tt, ↓gate_ff, ↓gate_tf, ↓gate_ft, ↓gate_undef, ↓o_bind, ↓stay_v, ↓pop_cons, ↓fin_nil, Option.isNone_none, Option.isNone_some, Bool.not_true, Bool.not_false, Nat.zero_add, decide_true, decide_false, if_true, if_false, Bool.false_eq_true, ↓reduceIte]
  refine ld_in (b := p) (v := .map (some m)) h rfl ?_
  refine Mk.range_sl (κ := K2) (b := m) (l := []) h fun i w h => ?_
  have h : sat E w (Mk.omit_ i m ([] : List (K2 × Value)) [] * (pts p (.cells [Value.map (some m)].toArray 100 (0, 0)) * R)) := h.perm (by ac_rfl)
  refine lp_nat (fun r σ w => σ = [.slice none 0 0] ∧ sat E w (Mk.omit_ i m ([] : List (K2 × Value)) [] * (pts p (.cells [Value.map (some m)].toArray 100 (0, 0)) * R))) 0 ⟨rfl, h⟩ ?_
  clear h
  rintro r σ w again ⟨rfl, h⟩ hag
  rw [pop_cons, fin_nil]
  refine Mk.next_sl (i := i) (b := m) (l := ([] : List (K2 × Value))) (rest := []) h (fun h0 => ?_) (fun j x w hj hen h => by simp at hj)
  rw [o_extract, cd_false]
  refine SortO_spec (by omega) h fun w h => ?_
  have h := Mk.omit_close h
  exact k w (h.perm (by unfold bkI; ac_rfl))
theorem full0_spec {t : List UInt8} (h : sat E w (bkI p m [] R)) (k : ∀ w', sat E w' (bkI p m [] R) → K (.bool false) w') : Calls prog 39 #[.pointer (some ⟨p, 0, none⟩), tv t] w (Ret K) := by
  refine c39 ?_
  unfold B39
  refine Owners0_spec h fun w h => ?_
  simp only [show decide ((8 : Int) ≤ ((0 : Nat) : Int)) = false from rfl, show decide (((0 : Nat) : Int) = 0) = true from rfl, ↓o_nil, ↓o_field, ↓o_add, ↓o_sub, ↓o_mul, ↓o_lss, ↓o_leq, ↓o_gtr, ↓o_geq, ↓o_not, ↓o_pick, ↓o_eqInt, ↓o_neInt, ↓o_eqBool, ↓o_neBool, ↓o_eqPtr, ↓o_nePtr, ↓o_eqPtr', ↓o_eqSl, ↓o_neSl, ↓o_eqStr, ↓o_neStr, ↓o_len, ↓o_lenS, ↓o_min, ↓o_max, ↓o_extract, ↓o_convInt, ↓cd_true, ↓cd_false, ↓gate_tt, ↓gate_ff, ↓gate_tf, ↓gate_ft, ↓gate_undef, ↓o_bind, ↓stay_v, ↓pop_cons, ↓fin_nil, Option.isNone_none, Option.isNone_some, Bool.not_true, Bool.not_false, Nat.zero_add, decide_true, decide_false, if_true, if_false, Bool.false_eq_true, ↓reduceIte]
  refine Tenants0_spec h fun w h => ?_
  simp only [show decide ((4 : Int) ≤ ((0 : Nat) : Int)) = false from rfl, ↓o_nil, ↓o_field, ↓o_add, ↓o_sub, ↓o_mul, ↓o_lss, ↓o_leq, ↓o_gtr, ↓o_geq, ↓o_not, ↓o_pick, ↓o_eqInt, ↓o_neInt, ↓o_eqBool, ↓o_neBool, ↓o_eqPtr, ↓o_nePtr, ↓o_eqPtr', ↓o_eqSl, ↓o_neSl, ↓o_eqStr, ↓o_neStr, ↓o_len, ↓o_lenS, ↓o_min, ↓o_max, ↓o_extract, ↓o_convInt, ↓cd_true, ↓cd_false, ↓gate_tt, ↓gate_ff, ↓gate_tf, ↓gate_ft, ↓gate_undef, ↓o_bind, ↓stay_v, ↓pop_cons, ↓fin_nil, Option.isNone_none, Option.isNone_some, Bool.not_true, Bool.not_false, Nat.zero_add, decide_true, decide_false, if_true, if_false, Bool.false_eq_true, ↓reduceIte]
  exact k w h
def qO : K2 := ⟨[116], [117]⟩
theorem rc_build {l s : List UInt8} {c : Nat} (hl : l.length = 32) {K : Value → World → Prop} (k : K (.agg (rcc ⟨0, 0, l, s, c⟩).toArray) w) :
    pvv prog (Instr.build 105 #[(1, .agg (l.map bv).toArray), (2, tv s), (3, .int .i64 (c : Int))]) w K := by
  obtain ⟨f, rfl⟩ := fn32 hl
  exact pvv_of (fun w => by kernel_rfl) k
theorem Made_spec {pw salt : List UInt8} (h : sat E w (bkI p m l R)) (k : ∀ w', sat E w' (bkI p m l R) → K (.tuple #[.agg (rcc ⟨0, 0, (iter pw salt 2).1, salt, 2⟩).toArray, .int .i64 (iter pw salt 2).2]) w') :
    Calls prog 38 #[.pointer (some ⟨p, 0, none⟩), .agg #[tv [116], tv [117]], tv pw, tv salt, .int .i64 2] w (Ret K) := by
  refine c38 ?_
  unfold B38
  refine box_sl h fun ob w h => ?_
  have h : sat E w (pts ob (.cells [tv [116], tv [117]].toArray 54 (0, 0)) * bkI p m l R) := h
  refine alloc_sl h fun b0 w h => ?_
  have h : sat E w (pts b0 (.cells (rcc zrc).toArray 105 (0, 0)) * (pts ob (.cells [tv [116], tv [117]].toArray 54 (0, 0)) * bkI p m l R)) := h
  simp only [↓o_nil, ↓o_field, ↓o_add, ↓o_sub, ↓o_mul, ↓o_lss, ↓o_leq, ↓o_gtr, ↓o_geq, ↓o_not, ↓o_pick, ↓o_eqInt, ↓o_neInt, ↓o_eqBool, ↓o_neBool, ↓o_eqPtr, ↓o_nePtr, ↓o_eqPtr', ↓o_eqSl, ↓o_neSl, ↓o_eqStr, ↓o_neStr, ↓o_len, ↓o_lenS, ↓o_min, ↓o_max, ↓o_extract, ↓o_convInt, ↓cd_true, ↓cd_false, ↓gate_tt, ↓gate_ff, ↓gate_tf, ↓gate_ft, ↓gate_undef, ↓o_bind, ↓stay_v, ↓pop_cons, ↓fin_nil, Option.isNone_none, Option.isNone_some, Bool.not_true, Bool.not_false, Nat.zero_add, decide_true, decide_false, if_true, if_false, Bool.false_eq_true, ↓reduceIte]
  refine ld_in (b := ob) (v := tv [116]) h rfl ?_
  refine IsName_spec h (by decide) fun w h => ?_
  simp only [show isName [116] = true by decide, ↓o_nil, ↓o_field, ↓o_add, ↓o_sub, ↓o_mul, ↓o_lss, ↓o_leq, ↓o_gtr, ↓o_geq, ↓o_not, ↓o_pick, ↓o_eqInt, ↓o_neInt, ↓o_eqBool, ↓o_neBool, ↓o_eqPtr, ↓o_nePtr, ↓o_eqPtr', ↓o_eqSl, ↓o_neSl, ↓o_eqStr, ↓o_neStr, ↓o_len, ↓o_lenS, ↓o_min, ↓o_max, ↓o_extract, ↓o_convInt, ↓cd_true, ↓cd_false, ↓gate_tt, ↓gate_ff, ↓gate_tf, ↓gate_ft, ↓gate_undef, ↓o_bind, ↓stay_v, ↓pop_cons, ↓fin_nil, Option.isNone_none, Option.isNone_some, Bool.not_true, Bool.not_false, Nat.zero_add, decide_true, decide_false, if_true, if_false, Bool.false_eq_true, ↓reduceIte]
  refine ld_in (b := ob) (v := tv [117]) h rfl ?_
  refine IsName_spec h (by decide) fun w h => ?_
  simp only [show isName [117] = true by decide, ↓o_nil, ↓o_field, ↓o_add, ↓o_sub, ↓o_mul, ↓o_lss, ↓o_leq, ↓o_gtr, ↓o_geq, ↓o_not, ↓o_pick, ↓o_eqInt, ↓o_neInt, ↓o_eqBool, ↓o_neBool, ↓o_eqPtr, ↓o_nePtr, ↓o_eqPtr', ↓o_eqSl, ↓o_neSl, ↓o_eqStr, ↓o_neStr, ↓o_len, ↓o_lenS, ↓o_min, ↓o_max, ↓o_extract, ↓o_convInt, ↓cd_true, ↓cd_false, ↓gate_tt, ↓gate_ff, ↓gate_tf, ↓gate_ft, ↓gate_undef, ↓o_bind, ↓stay_v, ↓pop_cons, ↓fin_nil, Option.isNone_none, Option.isNone_some, Bool.not_true, Bool.not_false, Nat.zero_add, decide_true, decide_false, if_true, if_false, Bool.false_eq_true, ↓reduceIte]
  refine Iterate_spec (cost := 2) h (by omega) fun w h => ?_
  unfold ihv2
  simp only [↓o_nil, ↓o_field, ↓o_add, ↓o_sub, ↓o_mul, ↓o_lss, ↓o_leq, ↓o_gtr, ↓o_geq, ↓o_not, ↓o_pick, ↓o_eqInt, ↓o_neInt, ↓o_eqBool, ↓o_neBool, ↓o_eqPtr, ↓o_nePtr, ↓o_eqPtr', ↓o_eqSl, ↓o_neSl, ↓o_eqStr, ↓o_neStr, ↓o_len, ↓o_lenS, ↓o_min, ↓o_max, ↓o_extract, ↓o_convInt, ↓cd_true, ↓cd_false, ↓gate_tt, ↓gate_ff, ↓gate_tf, ↓gate_ft, ↓gate_undef, ↓o_bind, ↓stay_v, ↓pop_cons, ↓fin_nil, Option.isNone_none, Option.isNone_some, Bool.not_true, Bool.not_false, Nat.zero_add, decide_true, decide_false, if_true, if_false, Bool.false_eq_true, ↓reduceIte]
  have hil := iter_length pw salt 2
  generalize iter pw salt 2 = x at hil k ⊢
  refine hash_var h hil fun hb w h => ?_
  refine ld_agg (b := hb) h (by simpa using hil) ?_
  refine rc_build (c := 2) hil ?_
  refine rc_ret (b := b0) h (r := ⟨0, 0, x.1, salt, 2⟩) hil (zs := rcc zrc) rfl fun w h => ?_
  exact k w h.drop.drop.drop
theorem Add_spec {pw salt : List UInt8} (h : sat E w (bkI p m [] R))
    (k0 : (iter pw salt 2).2 ≠ 0 → ∀ w', sat E w' (bkI p m [] R) → K (.int .i64 (iter pw salt 2).2) w')
    (k1 : (iter pw salt 2).2 = 0 → ∀ w', sat E w' (bkI p m [(qO, .agg (rcc ⟨0, 0, (iter pw salt 2).1, salt, 2⟩).toArray)] R) → K (.int .i64 0) w') :
    Calls prog 17 #[.pointer (some ⟨p, 0, none⟩), .agg #[tv [116], tv [117]], tv pw, tv salt, .int .i64 2] w (Ret K) := by
  refine c17 ?_
  unfold B17
  refine box_sl h fun ob w h => ?_
  have h : sat E w (pts ob (.cells [tv [116], tv [117]].toArray 54 (0, 0)) * bkI p m [] R) := h
  refine ld_agg (b := ob) h rfl ?_
  have h := h.perm (show _ = bkI p m [] (pts ob (.cells [tv [116], tv [117]].toArray 54 (0, 0)) * R) by unfold bkI; ac_rfl)
  refine Made_spec h fun w h => ?_
  simp only [↓o_nil, ↓o_field, ↓o_add, ↓o_sub, ↓o_mul, ↓o_lss, ↓o_leq, ↓o_gtr, ↓o_geq, ↓o_not, ↓o_pick, ↓o_eqInt, ↓o_neInt, ↓o_eqBool, ↓o_neBool, ↓o_eqPtr, ↓o_nePtr, ↓o_eqPtr', ↓o_eqSl, ↓o_neSl, ↓o_eqStr, ↓o_neStr, ↓o_len, ↓o_lenS, ↓o_min, ↓o_max, ↓o_extract, ↓o_convInt, ↓cd_true, ↓cd_false, ↓gate_tt, ↓gate_ff, ↓gate_tf, ↓gate_ft, ↓gate_undef, ↓o_bind, ↓stay_v, ↓pop_cons, ↓fin_nil, Option.isNone_none, Option.isNone_some, Bool.not_true, Bool.not_false, Nat.zero_add, decide_true, decide_false, if_true, if_false, Bool.false_eq_true, ↓reduceIte]
  have hil := iter_length pw salt 2
  generalize iter pw salt 2 = x at hil k0 k1 ⊢
  have hcl := hil
  refine rc_in h (r := ⟨0, 0, x.1, salt, 2⟩) hil fun rb w h => ?_
  have hback : ∀ {w l}, sat E w (pts rb (.cells (rcc ⟨0, 0, x.1, salt, 2⟩).toArray 105 (0, 0)) * bkI p m l (pts ob (.cells [tv [116], tv [117]].toArray 54 (0, 0)) * R)) → sat E w (bkI p m l R) := fun {w l} h =>
    (h.perm (show _ = pts rb (.cells (rcc ⟨0, 0, x.1, salt, 2⟩).toArray 105 (0, 0)) * (pts ob (.cells [tv [116], tv [117]].toArray 54 (0, 0)) * bkI p m l R) by unfold bkI; ac_rfl)).drop.drop
  refine cd_dec' (fun he => ?_) (fun he => k0 he w (hback h))
  refine dr_sl h fun w h _ => ?_
  try simp only [↓o_nil, ↓o_field, ↓o_add, ↓o_sub, ↓o_mul, ↓o_lss, ↓o_leq, ↓o_gtr, ↓o_geq, ↓o_not, ↓o_pick, ↓o_eqInt, ↓o_neInt, ↓o_eqBool, ↓o_neBool, ↓o_eqPtr, ↓o_nePtr, ↓o_eqPtr', ↓o_eqSl, ↓o_neSl, ↓o_eqStr, ↓o_neStr, ↓o_len, ↓o_lenS, ↓o_min, ↓o_max, ↓o_extract, ↓o_convInt, ↓cd_true, ↓cd_false, ↓gate_tt, ↓gate_ff, ↓gate_tf, ↓gate_ft, ↓gate_undef, ↓o_bind, ↓stay_v, ↓pop_cons, ↓fin_nil, Option.isNone_none, Option.isNone_some, Bool.not_true, Bool.not_false, Nat.zero_add, decide_true, decide_false, if_true, if_false, Bool.false_eq_true, ↓reduceIte]
  refine ld_in (b := p) (v := .map (some m)) h rfl ?_
  refine ld_agg (b := ob) h rfl ?_
  refine Mk.look_no (b := m) (l := ([] : List (K2 × Value))) (k := qO) h rfl ?_
  try simp only [↓o_nil, ↓o_field, ↓o_add, ↓o_sub, ↓o_mul, ↓o_lss, ↓o_leq, ↓o_gtr, ↓o_geq, ↓o_not, ↓o_pick, ↓o_eqInt, ↓o_neInt, ↓o_eqBool, ↓o_neBool, ↓o_eqPtr, ↓o_nePtr, ↓o_eqPtr', ↓o_eqSl, ↓o_neSl, ↓o_eqStr, ↓o_neStr, ↓o_len, ↓o_lenS, ↓o_min, ↓o_max, ↓o_extract, ↓o_convInt, ↓cd_true, ↓cd_false, ↓gate_tt, ↓gate_ff, ↓gate_tf, ↓gate_ft, ↓gate_undef, ↓o_bind, ↓stay_v, ↓pop_cons, ↓fin_nil, Option.isNone_none, Option.isNone_some, Bool.not_true, Bool.not_false, Nat.zero_add, decide_true, decide_false, if_true, if_false, Bool.false_eq_true, ↓reduceIte]
  refine alloc_sl h fun ab w h => ?_
  have h : sat E w (pts ab (.cells (rcc zrc).toArray 105 (0, 0)) * (pts rb (.cells (rcc ⟨0, 0, x.1, salt, 2⟩).toArray 105 (0, 0)) * bkI p m [] (pts ob (.cells [tv [116], tv [117]].toArray 54 (0, 0)) * R))) := h
  refine Mk.st_no (b := m) (l := ([] : List (K2 × Value))) (k := qO) h rfl ?_
  refine st_agg (b := ob) h rfl ?_
  refine st_in (b := p) (v := .map (some m)) h rfl ?_
  refine store_all (b := ab) h (xs := rcc zrc) (vs := rcc zrc) rfl rfl (rcc_one _) fun w h => ?_
  try simp only [↓o_nil, ↓o_field, ↓o_add, ↓o_sub, ↓o_mul, ↓o_lss, ↓o_leq, ↓o_gtr, ↓o_geq, ↓o_not, ↓o_pick, ↓o_eqInt, ↓o_neInt, ↓o_eqBool, ↓o_neBool, ↓o_eqPtr, ↓o_nePtr, ↓o_eqPtr', ↓o_eqSl, ↓o_neSl, ↓o_eqStr, ↓o_neStr, ↓o_len, ↓o_lenS, ↓o_min, ↓o_max, ↓o_extract, ↓o_convInt, ↓cd_true, ↓cd_false, ↓gate_tt, ↓gate_ff, ↓gate_tf, ↓gate_ft, ↓gate_undef, ↓o_bind, ↓stay_v, ↓pop_cons, ↓fin_nil, Option.isNone_none, Option.isNone_some, Bool.not_true, Bool.not_false, Nat.zero_add, decide_true, decide_false, if_true, if_false, Bool.false_eq_true, ↓reduceIte]
  refine ld_in (b := ob) (v := tv [116]) h rfl ?_
  have h := h.drop
  have h := h.perm (show _ = bkI p m [] (pts rb (.cells (rcc ⟨0, 0, x.1, salt, 2⟩).toArray 105 (0, 0)) * (pts ob (.cells [tv [116], tv [117]].toArray 54 (0, 0)) * R)) by unfold bkI; ac_rfl)
  refine full0_spec h fun w h => ?_
  rw [cd_false]
  refine dr_sl h fun w h _ => ?_
  try simp only [↓o_nil, ↓o_field, ↓o_add, ↓o_sub, ↓o_mul, ↓o_lss, ↓o_leq, ↓o_gtr, ↓o_geq, ↓o_not, ↓o_pick, ↓o_eqInt, ↓o_neInt, ↓o_eqBool, ↓o_neBool, ↓o_eqPtr, ↓o_nePtr, ↓o_eqPtr', ↓o_eqSl, ↓o_neSl, ↓o_eqStr, ↓o_neStr, ↓o_len, ↓o_lenS, ↓o_min, ↓o_max, ↓o_extract, ↓o_convInt, ↓cd_true, ↓cd_false, ↓gate_tt, ↓gate_ff, ↓gate_tf, ↓gate_ft, ↓gate_undef, ↓o_bind, ↓stay_v, ↓pop_cons, ↓fin_nil, Option.isNone_none, Option.isNone_some, Bool.not_true, Bool.not_false, Nat.zero_add, decide_true, decide_false, if_true, if_false, Bool.false_eq_true, ↓reduceIte]
  refine ld_in (b := p) (v := .map (some m)) h rfl ?_
  refine ld_agg (b := ob) h rfl ?_
  refine ld_agg (b := rb) h (rcc_len (r := ⟨0, 0, x.1, salt, 2⟩) hil) ?_
  refine Mk.update_sl (b := m) (l := ([] : List (K2 × Value))) (k := qO) h fun w h => ?_
  refine k1 he w (hback ?_)
  exact h.perm (by unfold bkI; rw [show Mk.putM ([] : List (K2 × Value)) qO (.agg (rcc ⟨0, 0, x.1, salt, 2⟩).toArray) = [(qO, .agg (rcc ⟨0, 0, x.1, salt, 2⟩).toArray)] from rfl]; ac_rfl)
end
end Go.Proofs.YtmnaalpjhkkglaaGreatDoor

/-
  A book with one user: a try, and a check of the right password.
-/
set_option linter.all false
set_option maxRecDepth 100000
namespace Go.Proofs.YtmnaalpjhkkglaaGreatDoor
open Go Hold
variable {E : World0} {w : World} {H R : HP} {K : Value → World → Prop}
abbrev oneU (r : Rc) : List (K2 × Value) := [(qO, .agg (rcc r).toArray)]
theorem oneU_put (r s : Rc) : Mk.putM (oneU r) qO (.agg (rcc s).toArray) = oneU s := rfl
section
variable {p m : Nat} {r : Rc}
theorem Find_spec (hr : r.h.length = 32) (h : sat E w (bkI p m (oneU r) R)) (k : ∀ w', sat E w' (bkI p m (oneU r) R) → K (.tuple #[.agg (rcc r).toArray, .int .i64 0]) w') :
    Calls prog 45 #[.pointer (some ⟨p, 0, none⟩), .agg #[tv [116], tv [117]], .int .i64 0] w (Ret K) := by
  refine c45 ?_
  unfold B45
  refine box_sl h fun ob w h => ?_
  have h : sat E w (pts ob (.cells [tv [116], tv [117]].toArray 54 (0, 0)) * bkI p m (oneU r) R) := h
  refine alloc_sl h fun b0 w h => ?_
  have h : sat E w (pts b0 (.cells (rcc zrc).toArray 105 (0, 0)) * (pts ob (.cells [tv [116], tv [117]].toArray 54 (0, 0)) * bkI p m (oneU r) R)) := h
  simp only [↓o_nil, ↓o_field, ↓o_add, ↓o_sub, ↓o_mul, ↓o_lss, ↓o_leq, ↓o_gtr, ↓o_geq, ↓o_not, ↓o_pick, ↓o_eqInt, ↓o_neInt, ↓o_eqBool, ↓o_neBool, ↓o_eqPtr, ↓o_nePtr, ↓o_eqPtr', ↓o_eqSl, ↓o_neSl, ↓o_eqStr, ↓o_neStr, ↓o_len, ↓o_lenS, ↓o_min, ↓o_max, ↓o_extract, ↓o_convInt, ↓cd_true, ↓cd_false, ↓gate_tt, ↓gate_ff, ↓gate_tf, ↓gate_ft, ↓gate_undef, ↓o_bind, ↓stay_v, ↓pop_cons, ↓fin_nil, Option.isNone_none, Option.isNone_some, Bool.not_true, Bool.not_false, Nat.zero_add, decide_true, decide_false, if_true, if_false, Bool.false_eq_true, ↓reduceIte]
  refine dr_sl h fun w h _ => ?_
  try simp only [↓o_nil, ↓o_field, ↓o_add, ↓o_sub, ↓o_mul, ↓o_lss, ↓o_leq, ↓o_gtr, ↓o_geq, ↓o_not, ↓o_pick, ↓o_eqInt, ↓o_neInt, ↓o_eqBool, ↓o_neBool, ↓o_eqPtr, ↓o_nePtr, ↓o_eqPtr', ↓o_eqSl, ↓o_neSl, ↓o_eqStr, ↓o_neStr, ↓o_len, ↓o_lenS, ↓o_min, ↓o_max, ↓o_extract, ↓o_convInt, ↓cd_true, ↓cd_false, ↓gate_tt, ↓gate_ff, ↓gate_tf, ↓gate_ft, ↓gate_undef, ↓o_bind, ↓stay_v, ↓pop_cons, ↓fin_nil, Option.isNone_none, Option.isNone_some, Bool.not_true, Bool.not_false, Nat.zero_add, decide_true, decide_false, if_true, if_false, Bool.false_eq_true, ↓reduceIte]
  refine ld_in (b := p) (v := .map (some m)) h rfl ?_
  refine ld_agg (b := ob) h rfl ?_
  refine Mk.look_yes (b := m) (l := oneU r) (k := qO) h (v := .agg (rcc r).toArray) rfl ?_
  try simp only [↓o_nil, ↓o_field, ↓o_add, ↓o_sub, ↓o_mul, ↓o_lss, ↓o_leq, ↓o_gtr, ↓o_geq, ↓o_not, ↓o_pick, ↓o_eqInt, ↓o_neInt, ↓o_eqBool, ↓o_neBool, ↓o_eqPtr, ↓o_nePtr, ↓o_eqPtr', ↓o_eqSl, ↓o_neSl, ↓o_eqStr, ↓o_neStr, ↓o_len, ↓o_lenS, ↓o_min, ↓o_max, ↓o_extract, ↓o_convInt, ↓cd_true, ↓cd_false, ↓gate_tt, ↓gate_ff, ↓gate_tf, ↓gate_ft, ↓gate_undef, ↓o_bind, ↓stay_v, ↓pop_cons, ↓fin_nil, Option.isNone_none, Option.isNone_some, Bool.not_true, Bool.not_false, Nat.zero_add, decide_true, decide_false, if_true, if_false, Bool.false_eq_true, ↓reduceIte]
  refine alloc_sl h fun ab w h => ?_
  have h : sat E w (pts ab (.cells (rcc zrc).toArray 105 (0, 0)) * (pts b0 (.cells (rcc zrc).toArray 105 (0, 0)) * (pts ob (.cells [tv [116], tv [117]].toArray 54 (0, 0)) * bkI p m (oneU r) R))) := h
  refine Mk.st_yes (b := m) (l := oneU r) (k := qO) h (v := .agg (rcc r).toArray) rfl ?_
  refine st_agg (b := ob) h rfl ?_
  refine st_in (b := p) (v := .map (some m)) h rfl ?_
  refine store_all (b := ab) h (xs := rcc zrc) (vs := rcc r) rfl (rcc_len hr) (rcc_one _) fun w h => ?_
  simp only [show decide ((0 : Int) < 0) = false from rfl, show decide ((1099511627776 : Int) < 0) = false from rfl, ↓o_nil, ↓o_field, ↓o_add, ↓o_sub, ↓o_mul, ↓o_lss, ↓o_leq, ↓o_gtr, ↓o_geq, ↓o_not, ↓o_pick, ↓o_eqInt, ↓o_neInt, ↓o_eqBool, ↓o_neBool, ↓o_eqPtr, ↓o_nePtr, ↓o_eqPtr', ↓o_eqSl, ↓o_neSl, ↓o_eqStr, ↓o_neStr, ↓o_len, ↓o_lenS, ↓o_min, ↓o_max, ↓o_extract, ↓o_convInt, ↓cd_true, ↓cd_false, ↓gate_tt, ↓gate_ff, ↓gate_tf, ↓gate_ft, ↓gate_undef, ↓o_bind, ↓stay_v, ↓pop_cons, ↓fin_nil, Option.isNone_none, Option.isNone_some, Bool.not_true, Bool.not_false, Nat.zero_add, decide_true, decide_false, if_true, if_false, Bool.false_eq_true, ↓reduceIte]
  refine ld_agg (b := ab) h (rcc_len hr) ?_
  refine rc_ret (b := b0) h hr (zs := rcc zrc) rfl fun w h => ?_
  exact k w h.drop.drop.drop
theorem Try_spec (hr : r.h.length = 32) (hu : r.un = 0) (ht : r.tr = 0) (h : sat E w (bkI p m (oneU r) R)) (k : ∀ w', sat E w' (bkI p m (oneU { r with tr := 1 }) R) → K (.int .i64 0) w') :
    Calls prog 22 #[.pointer (some ⟨p, 0, none⟩), .agg #[tv [116], tv [117]], .int .i64 0] w (Ret K) := by
  refine c22 ?_
  unfold B22
  refine box_sl h fun ob w h => ?_
  have h : sat E w (pts ob (.cells [tv [116], tv [117]].toArray 54 (0, 0)) * bkI p m (oneU r) R) := h
  refine ld_agg (b := ob) h rfl ?_
  have h := h.perm (show _ = bkI p m (oneU r) (pts ob (.cells [tv [116], tv [117]].toArray 54 (0, 0)) * R) by unfold bkI; ac_rfl)
  refine Find_spec hr h fun w h => ?_
  simp only [↓o_nil, ↓o_field, ↓o_add, ↓o_sub, ↓o_mul, ↓o_lss, ↓o_leq, ↓o_gtr, ↓o_geq, ↓o_not, ↓o_pick, ↓o_eqInt, ↓o_neInt, ↓o_eqBool, ↓o_neBool, ↓o_eqPtr, ↓o_nePtr, ↓o_eqPtr', ↓o_eqSl, ↓o_neSl, ↓o_eqStr, ↓o_neStr, ↓o_len, ↓o_lenS, ↓o_min, ↓o_max, ↓o_extract, ↓o_convInt, ↓cd_true, ↓cd_false, ↓gate_tt, ↓gate_ff, ↓gate_tf, ↓gate_ft, ↓gate_undef, ↓o_bind, ↓stay_v, ↓pop_cons, ↓fin_nil, Option.isNone_none, Option.isNone_some, Bool.not_true, Bool.not_false, Nat.zero_add, decide_true, decide_false, if_true, if_false, Bool.false_eq_true, ↓reduceIte]
  refine rc_in h hr fun rb w h => ?_
  unfold jn
  simp only [show decide ((0 : Int) = 0) = true from rfl, ↓o_nil, ↓o_field, ↓o_add, ↓o_sub, ↓o_mul, ↓o_lss, ↓o_leq, ↓o_gtr, ↓o_geq, ↓o_not, ↓o_pick, ↓o_eqInt, ↓o_neInt, ↓o_eqBool, ↓o_neBool, ↓o_eqPtr, ↓o_nePtr, ↓o_eqPtr', ↓o_eqSl, ↓o_neSl, ↓o_eqStr, ↓o_neStr, ↓o_len, ↓o_lenS, ↓o_min, ↓o_max, ↓o_extract, ↓o_convInt, ↓cd_true, ↓cd_false, ↓gate_tt, ↓gate_ff, ↓gate_tf, ↓gate_ft, ↓gate_undef, ↓o_bind, ↓stay_v, ↓pop_cons, ↓fin_nil, Option.isNone_none, Option.isNone_some, Bool.not_true, Bool.not_false, Nat.zero_add, decide_true, decide_false, if_true, if_false, Bool.false_eq_true, ↓reduceIte]
  refine ld_in (b := rb) (v := .int .i64 (r.un : Int)) h (rc_un r) ?_
  rw [hu]
  simp only [show decide ((0 : Int) < ((0 : Nat) : Int)) = false from rfl, ↓o_nil, ↓o_field, ↓o_add, ↓o_sub, ↓o_mul, ↓o_lss, ↓o_leq, ↓o_gtr, ↓o_geq, ↓o_not, ↓o_pick, ↓o_eqInt, ↓o_neInt, ↓o_eqBool, ↓o_neBool, ↓o_eqPtr, ↓o_nePtr, ↓o_eqPtr', ↓o_eqSl, ↓o_neSl, ↓o_eqStr, ↓o_neStr, ↓o_len, ↓o_lenS, ↓o_min, ↓o_max, ↓o_extract, ↓o_convInt, ↓cd_true, ↓cd_false, ↓gate_tt, ↓gate_ff, ↓gate_tf, ↓gate_ft, ↓gate_undef, ↓o_bind, ↓stay_v, ↓pop_cons, ↓fin_nil, Option.isNone_none, Option.isNone_some, Bool.not_true, Bool.not_false, Nat.zero_add, decide_true, decide_false, if_true, if_false, Bool.false_eq_true, ↓reduceIte]
  refine ld_in (b := rb) (v := .int .i64 (r.un : Int)) h (rc_un r) ?_
  rw [hu]
  simp only [show decide (((0 : Nat) : Int) = 0) = true from rfl, ↓o_nil, ↓o_field, ↓o_add, ↓o_sub, ↓o_mul, ↓o_lss, ↓o_leq, ↓o_gtr, ↓o_geq, ↓o_not, ↓o_pick, ↓o_eqInt, ↓o_neInt, ↓o_eqBool, ↓o_neBool, ↓o_eqPtr, ↓o_nePtr, ↓o_eqPtr', ↓o_eqSl, ↓o_neSl, ↓o_eqStr, ↓o_neStr, ↓o_len, ↓o_lenS, ↓o_min, ↓o_max, ↓o_extract, ↓o_convInt, ↓cd_true, ↓cd_false, ↓gate_tt, ↓gate_ff, ↓gate_tf, ↓gate_ft, ↓gate_undef, ↓o_bind, ↓stay_v, ↓pop_cons, ↓fin_nil, Option.isNone_none, Option.isNone_some, Bool.not_true, Bool.not_false, Nat.zero_add, decide_true, decide_false, if_true, if_false, Bool.false_eq_true, ↓reduceIte]
  refine ld_in (b := rb) (v := .int .i64 (r.tr : Int)) h (rc_tr r) ?_
  rw [ht]
  simp only [show decide ((3 : Int) ≤ ((0 : Nat) : Int)) = false from rfl, ↓o_nil, ↓o_field, ↓o_add, ↓o_sub, ↓o_mul, ↓o_lss, ↓o_leq, ↓o_gtr, ↓o_geq, ↓o_not, ↓o_pick, ↓o_eqInt, ↓o_neInt, ↓o_eqBool, ↓o_neBool, ↓o_eqPtr, ↓o_nePtr, ↓o_eqPtr', ↓o_eqSl, ↓o_neSl, ↓o_eqStr, ↓o_neStr, ↓o_len, ↓o_lenS, ↓o_min, ↓o_max, ↓o_extract, ↓o_convInt, ↓cd_true, ↓cd_false, ↓gate_tt, ↓gate_ff, ↓gate_tf, ↓gate_ft, ↓gate_undef, ↓o_bind, ↓stay_v, ↓pop_cons, ↓fin_nil, Option.isNone_none, Option.isNone_some, Bool.not_true, Bool.not_false, Nat.zero_add, decide_true, decide_false, if_true, if_false, Bool.false_eq_true, ↓reduceIte]
  refine ld_in (b := rb) (v := .int .i64 (r.tr : Int)) h (rc_tr r) ?_
  rw [ht]
  simp only [↓o_nil, ↓o_field, ↓o_add, ↓o_sub, ↓o_mul, ↓o_lss, ↓o_leq, ↓o_gtr, ↓o_geq, ↓o_not, ↓o_pick, ↓o_eqInt, ↓o_neInt, ↓o_eqBool, ↓o_neBool, ↓o_eqPtr, ↓o_nePtr, ↓o_eqPtr', ↓o_eqSl, ↓o_neSl, ↓o_eqStr, ↓o_neStr, ↓o_len, ↓o_lenS, ↓o_min, ↓o_max, ↓o_extract, ↓o_convInt, ↓cd_true, ↓cd_false, ↓gate_tt, ↓gate_ff, ↓gate_tf, ↓gate_ft, ↓gate_undef, ↓o_bind, ↓stay_v, ↓pop_cons, ↓fin_nil, Option.isNone_none, Option.isNone_some, Bool.not_true, Bool.not_false, Nat.zero_add, decide_true, decide_false, if_true, if_false, Bool.false_eq_true, ↓reduceIte]
  rw [i64_of (by omega) (by omega), show ((0 : Nat) : Int) + 1 = ((1 : Nat) : Int) from rfl]
  refine store_sl (b := rb) h rfl (by rw [rcc_len hr]; decide) fun w h => ?_
  rw [rc_put0 r 1] at h
  refine dr_sl h fun w h _ => ?_
  try simp only [↓o_nil, ↓o_field, ↓o_add, ↓o_sub, ↓o_mul, ↓o_lss, ↓o_leq, ↓o_gtr, ↓o_geq, ↓o_not, ↓o_pick, ↓o_eqInt, ↓o_neInt, ↓o_eqBool, ↓o_neBool, ↓o_eqPtr, ↓o_nePtr, ↓o_eqPtr', ↓o_eqSl, ↓o_neSl, ↓o_eqStr, ↓o_neStr, ↓o_len, ↓o_lenS, ↓o_min, ↓o_max, ↓o_extract, ↓o_convInt, ↓cd_true, ↓cd_false, ↓gate_tt, ↓gate_ff, ↓gate_tf, ↓gate_ft, ↓gate_undef, ↓o_bind, ↓stay_v, ↓pop_cons, ↓fin_nil, Option.isNone_none, Option.isNone_some, Bool.not_true, Bool.not_false, Nat.zero_add, decide_true, decide_false, if_true, if_false, Bool.false_eq_true, ↓reduceIte]
  refine ld_in (b := p) (v := .map (some m)) h rfl ?_
  refine ld_agg (b := ob) h rfl ?_
  refine ld_agg (b := rb) h (rcc_len (r := { r with tr := 1 }) hr) ?_
  refine Mk.update_sl (b := m) (l := oneU r) (k := qO) h fun w h => ?_
  rw [oneU_put] at h
  refine k w ?_
  exact (h.perm (show _ = pts rb (.cells (rcc { r with tr := 1 }).toArray 105 (0, 0)) * (pts ob (.cells [tv [116], tv [117]].toArray 54 (0, 0)) * bkI p m (oneU { r with tr := 1 }) R) by unfold bkI; ac_rfl)).drop.drop
theorem End_spec (hr : r.h.length = 32) {l : List (K2 × Value)} (hl : ∀ v, Mk.putM l qO v = [(qO, v)]) (h : sat E w (bkI p m l R)) (k : ∀ w', sat E w' (bkI p m (oneU { r with tr := 0, un := 0 }) R) → K (.int .i64 0) w') :
    Calls prog 47 #[.pointer (some ⟨p, 0, none⟩), .agg #[tv [116], tv [117]], .agg (rcc r).toArray, .int .i64 0, .bool true] w (Ret K) := by
  refine c47 ?_
  unfold B47
  refine box_sl h fun ob w h => ?_
  have h : sat E w (pts ob (.cells [tv [116], tv [117]].toArray 54 (0, 0)) * bkI p m l R) := h
  refine box_sl h fun rb w h => ?_
  have h : sat E w (pts rb (.cells (rcc r).toArray 105 (0, 0)) * (pts ob (.cells [tv [116], tv [117]].toArray 54 (0, 0)) * bkI p m l R)) := h
  unfold jn
  simp only [↓o_nil, ↓o_field, ↓o_add, ↓o_sub, ↓o_mul, ↓o_lss, ↓o_leq, ↓o_gtr, ↓o_geq, ↓o_not, ↓o_pick, ↓o_eqInt, ↓o_neInt, ↓o_eqBool, ↓o_neBool, ↓o_eqPtr, ↓o_nePtr, ↓o_eqPtr', ↓o_eqSl, ↓o_neSl, ↓o_eqStr, ↓o_neStr, ↓o_len, ↓o_lenS, ↓o_min, ↓o_max, ↓o_extract, ↓o_convInt, ↓cd_true, ↓cd_false, ↓gate_tt, ↓gate_ff, ↓gate_tf, ↓gate_ft, ↓gate_undef, ↓o_bind, ↓stay_v, ↓pop_cons, ↓fin_nil, Option.isNone_none, Option.isNone_some, Bool.not_true, Bool.not_false, Nat.zero_add, decide_true, decide_false, if_true, if_false, Bool.false_eq_true, ↓reduceIte]
  refine pvv_of (v := .agg [Value.int .i64 ((0 : Nat) : Int), .int .i64 ((0 : Nat) : Int)].toArray) (fun w => by kernel_rfl) ?_
  refine store_part (b := rb) h (rcc { r with tr := 0, un := 0 }) (vs := [Value.int .i64 ((0 : Nat) : Int), .int .i64 ((0 : Nat) : Int)]) rfl (by intro z hz; simp at hz; subst hz; rfl) (by rw [rcc_len hr]; decide) rfl fun w h => ?_
  refine dr_sl h fun w h _ => ?_
  try simp only [↓o_nil, ↓o_field, ↓o_add, ↓o_sub, ↓o_mul, ↓o_lss, ↓o_leq, ↓o_gtr, ↓o_geq, ↓o_not, ↓o_pick, ↓o_eqInt, ↓o_neInt, ↓o_eqBool, ↓o_neBool, ↓o_eqPtr, ↓o_nePtr, ↓o_eqPtr', ↓o_eqSl, ↓o_neSl, ↓o_eqStr, ↓o_neStr, ↓o_len, ↓o_lenS, ↓o_min, ↓o_max, ↓o_extract, ↓o_convInt, ↓cd_true, ↓cd_false, ↓gate_tt, ↓gate_ff, ↓gate_tf, ↓gate_ft, ↓gate_undef, ↓o_bind, ↓stay_v, ↓pop_cons, ↓fin_nil, Option.isNone_none, Option.isNone_some, Bool.not_true, Bool.not_false, Nat.zero_add, decide_true, decide_false, if_true, if_false, Bool.false_eq_true, ↓reduceIte]
  refine ld_in (b := p) (v := .map (some m)) h rfl ?_
  refine ld_agg (b := ob) h rfl ?_
  refine ld_agg (b := rb) h (rcc_len (r := { r with tr := 0, un := 0 }) hr) ?_
  refine Mk.update_sl (b := m) (l := l) (k := qO) h fun w h => ?_
  rw [hl] at h
  refine k w ?_
  exact (h.perm (show _ = pts rb (.cells (rcc { r with tr := 0, un := 0 }).toArray 105 (0, 0)) * (pts ob (.cells [tv [116], tv [117]].toArray 54 (0, 0)) * bkI p m (oneU { r with tr := 0, un := 0 }) R) by unfold bkI; ac_rfl)).drop.drop
theorem Check_spec {pw : List UInt8} (hr : r.h.length = 32) (hc : r.cost ≤ 64) (hi : iter pw r.salt (r.cost : Int) = (r.h, 0)) (h : sat E w (bkI p m (oneU r) R)) (k : ∀ w', sat E w' (bkI p m (oneU { r with tr := 0, un := 0 }) R) → K (.int .i64 0) w') :
    Calls prog 23 #[.pointer (some ⟨p, 0, none⟩), .agg #[tv [116], tv [117]], tv pw, .int .i64 0] w (Ret K) := by
  refine c23 ?_
  unfold B23
  refine box_sl h fun ob w h => ?_
  have h : sat E w (pts ob (.cells [tv [116], tv [117]].toArray 54 (0, 0)) * bkI p m (oneU r) R) := h
  refine ld_agg (b := ob) h rfl ?_
  have h := h.perm (show _ = bkI p m (oneU r) (pts ob (.cells [tv [116], tv [117]].toArray 54 (0, 0)) * R) by unfold bkI; ac_rfl)
  refine Find_spec hr h fun w h => ?_
  simp only [↓o_nil, ↓o_field, ↓o_add, ↓o_sub, ↓o_mul, ↓o_lss, ↓o_leq, ↓o_gtr, ↓o_geq, ↓o_not, ↓o_pick, ↓o_eqInt, ↓o_neInt, ↓o_eqBool, ↓o_neBool, ↓o_eqPtr, ↓o_nePtr, ↓o_eqPtr', ↓o_eqSl, ↓o_neSl, ↓o_eqStr, ↓o_neStr, ↓o_len, ↓o_lenS, ↓o_min, ↓o_max, ↓o_extract, ↓o_convInt, ↓cd_true, ↓cd_false, ↓gate_tt, ↓gate_ff, ↓gate_tf, ↓gate_ft, ↓gate_undef, ↓o_bind, ↓stay_v, ↓pop_cons, ↓fin_nil, Option.isNone_none, Option.isNone_some, Bool.not_true, Bool.not_false, Nat.zero_add, decide_true, decide_false, if_true, if_false, Bool.false_eq_true, ↓reduceIte]
  refine rc_in h hr fun rb w h => ?_
  simp only [show decide ((0 : Int) = 0) = true from rfl, ↓o_nil, ↓o_field, ↓o_add, ↓o_sub, ↓o_mul, ↓o_lss, ↓o_leq, ↓o_gtr, ↓o_geq, ↓o_not, ↓o_pick, ↓o_eqInt, ↓o_neInt, ↓o_eqBool, ↓o_neBool, ↓o_eqPtr, ↓o_nePtr, ↓o_eqPtr', ↓o_eqSl, ↓o_neSl, ↓o_eqStr, ↓o_neStr, ↓o_len, ↓o_lenS, ↓o_min, ↓o_max, ↓o_extract, ↓o_convInt, ↓cd_true, ↓cd_false, ↓gate_tt, ↓gate_ff, ↓gate_tf, ↓gate_ft, ↓gate_undef, ↓o_bind, ↓stay_v, ↓pop_cons, ↓fin_nil, Option.isNone_none, Option.isNone_some, Bool.not_true, Bool.not_false, Nat.zero_add, decide_true, decide_false, if_true, if_false, Bool.false_eq_true, ↓reduceIte]
  refine ld_in (b := rb) (v := tv r.salt) h (rc_salt hr) ?_
  refine ld_in (b := rb) (v := .int .i64 (r.cost : Int)) h (rc_cost hr) ?_
  refine Iterate_spec (cost := (r.cost : Int)) h (by omega) fun w h => ?_
  rw [hi]
  unfold ihv2
  simp only [↓o_nil, ↓o_field, ↓o_add, ↓o_sub, ↓o_mul, ↓o_lss, ↓o_leq, ↓o_gtr, ↓o_geq, ↓o_not, ↓o_pick, ↓o_eqInt, ↓o_neInt, ↓o_eqBool, ↓o_neBool, ↓o_eqPtr, ↓o_nePtr, ↓o_eqPtr', ↓o_eqSl, ↓o_neSl, ↓o_eqStr, ↓o_neStr, ↓o_len, ↓o_lenS, ↓o_min, ↓o_max, ↓o_extract, ↓o_convInt, ↓cd_true, ↓cd_false, ↓gate_tt, ↓gate_ff, ↓gate_tf, ↓gate_ft, ↓gate_undef, ↓o_bind, ↓stay_v, ↓pop_cons, ↓fin_nil, Option.isNone_none, Option.isNone_some, Bool.not_true, Bool.not_false, Nat.zero_add, decide_true, decide_false, if_true, if_false, Bool.false_eq_true, ↓reduceIte]
  refine hash_var h hr fun hb w h => ?_
  refine dr_sl h fun w h _ => ?_
  try simp only [show decide ((0 : Int) = 0) = true from rfl, ↓o_nil, ↓o_field, ↓o_add, ↓o_sub, ↓o_mul, ↓o_lss, ↓o_leq, ↓o_gtr, ↓o_geq, ↓o_not, ↓o_pick, ↓o_eqInt, ↓o_neInt, ↓o_eqBool, ↓o_neBool, ↓o_eqPtr, ↓o_nePtr, ↓o_eqPtr', ↓o_eqSl, ↓o_neSl, ↓o_eqStr, ↓o_neStr, ↓o_len, ↓o_lenS, ↓o_min, ↓o_max, ↓o_extract, ↓o_convInt, ↓cd_true, ↓cd_false, ↓gate_tt, ↓gate_ff, ↓gate_tf, ↓gate_ft, ↓gate_undef, ↓o_bind, ↓stay_v, ↓pop_cons, ↓fin_nil, Option.isNone_none, Option.isNone_some, Bool.not_true, Bool.not_false, Nat.zero_add, decide_true, decide_false, if_true, if_false, Bool.false_eq_true, ↓reduceIte]
  refine ld_agg (b := ob) h rfl ?_
  refine ld_agg (b := rb) h (rcc_len hr) ?_
  refine ld_agg (b := hb) h (by simpa using hr) ?_
  refine ld_part (b := rb) h (r.h.map bv) (by simpa using hr) (rc_h hr) ?_
  refine Same_spec h hr hr fun w h => ?_
  refine st_agg (b := rb) h (rcc_len hr) ?_
  refine st_agg (b := ob) h rfl ?_
  try simp only [decide_true, ↓o_nil, ↓o_field, ↓o_add, ↓o_sub, ↓o_mul, ↓o_lss, ↓o_leq, ↓o_gtr, ↓o_geq, ↓o_not, ↓o_pick, ↓o_eqInt, ↓o_neInt, ↓o_eqBool, ↓o_neBool, ↓o_eqPtr, ↓o_nePtr, ↓o_eqPtr', ↓o_eqSl, ↓o_neSl, ↓o_eqStr, ↓o_neStr, ↓o_len, ↓o_lenS, ↓o_min, ↓o_max, ↓o_extract, ↓o_convInt, ↓cd_true, ↓cd_false, ↓gate_tt, ↓gate_ff, ↓gate_tf, ↓gate_ft, ↓gate_undef, ↓o_bind, ↓stay_v, ↓pop_cons, ↓fin_nil, Option.isNone_none, Option.isNone_some, Bool.not_true, Bool.not_false, Nat.zero_add, decide_true, decide_false, if_true, if_false, Bool.false_eq_true, ↓reduceIte]
  have h := h.perm (show _ = bkI p m (oneU r) (pts hb (.cells (r.h.map bv).toArray 28 (0, 0)) * (pts rb (.cells (rcc r).toArray 105 (0, 0)) * (pts ob (.cells [tv [116], tv [117]].toArray 54 (0, 0)) * R))) by unfold bkI; ac_rfl)
  refine End_spec hr (fun v => rfl) h fun w h => ?_
  refine st_part (b := rb) h (r.h.map bv) (by simpa using hr) (rc_h hr) ?_
  refine st_agg (b := hb) h (by simpa using hr) ?_
  exact k w (h.perm (show _ = pts hb (.cells (r.h.map bv).toArray 28 (0, 0)) * (pts rb (.cells (rcc r).toArray 105 (0, 0)) * (pts ob (.cells [tv [116], tv [117]].toArray 54 (0, 0)) * bkI p m (oneU { r with tr := 0, un := 0 }) R)) by unfold bkI; ac_rfl)).drop.drop.drop
end
end Go.Proofs.YtmnaalpjhkkglaaGreatDoor

/-
  Numbers as texts, read again. No program in sight.
-/
set_option linter.all false
set_option maxRecDepth 100000
namespace Go.Proofs.YtmnaalpjhkkglaaGreatDoor
open Go Hold
theorem dig_val : ∀ d, d < 16 → hexv (dig d) = d ∧ dig d ∈ hexSet ∧ (dig d = 48 → d = 0) := by decide +kernel
theorem hexs_val (n : Nat) : hexVal (hexs n) = n := by
  induction n using Nat.strongRecOn with
  | _ n ih =>
    by_cases h : n = 0
    · subst h; rw [hexs_zero]; rfl
    · rw [hexs_pos h, hexVal_snoc, ih (n / 16) (by omega), (dig_val (n % 16) (by omega)).1]
      omega
theorem hexs_mem (n : Nat) : ∀ c ∈ hexs n, c ∈ hexSet := by
  induction n using Nat.strongRecOn with
  | _ n ih =>
    by_cases h : n = 0
    · subst h; rw [hexs_zero]; simp
    · rw [hexs_pos h]
      intro c hc
      rcases List.mem_append.1 hc with hc | hc
      · exact ih (n / 16) (by omega) c hc
      · rw [List.mem_singleton.1 hc]
        exact (dig_val (n % 16) (by omega)).2.1
theorem hexs_ne {n : Nat} (h : n ≠ 0) : hexs n ≠ [] := by rw [hexs_pos h]; simp
theorem hexs_head (n : Nat) : ¬ [48] <+: hexs n := by
  induction n using Nat.strongRecOn with
  | _ n ih =>
    by_cases h : n = 0
    · subst h; rw [hexs_zero]; simp
    · rw [hexs_pos h]
      by_cases h2 : n / 16 = 0
      · rw [h2, hexs_zero, List.nil_append]
        intro hp
        have h3 : (48 : UInt8) = dig (n % 16) := by simpa using hp
        have := (dig_val (n % 16) (by omega)).2.2 h3.symm
        omega
      · intro hp
        refine ih (n / 16) (by omega) ?_
        have hne := hexs_ne h2
        generalize hexs (n / 16) = a at hp hne
        cases a with
        | nil => exact absurd rfl hne
        | cons x a =>
          rw [List.cons_append] at hp
          have : (48 : UInt8) = x := by simpa using hp
          subst this
          simp
theorem toNum_text {n : Nat} (hn : n ≤ 4611686018427387904) : toNum (numText n) = ((n : Int), 0) := by
  have hl : (hexs n).length ≤ 16 := hexs_length 16 n (by show n < 16 ^ 16; omega)
  unfold toNum numText
  have e : (UInt8.ofNat (97 + (hexs n).length)).toNat = 97 + (hexs n).length := by
    rw [UInt8.toNat_ofNat']
    omega
  rw [if_neg, List.drop_succ_cons, List.drop_zero, if_neg, if_neg, hexs_val]
  · rw [hexs_val]; omega
  · rintro (h | h)
    · exact hexs_head n h
    · exact h (hexs_mem n)
  · rintro (h | h | h)
    · cases h
    · rw [List.getD_cons_zero, e, List.length_cons] at h
      omega
    · rw [List.length_cons] at h
      omega
end Go.Proofs.YtmnaalpjhkkglaaGreatDoor

/-
  A row's key is cut at its stroke; numbers are read.
-/
set_option linter.all false
set_option maxRecDepth 100000
namespace Go.Proofs.YtmnaalpjhkkglaaGreatDoor
open Go Hold
variable {E : World0} {w : World} {H R : HP} {K : Value → World → Prop}
theorem IndexC_spec {s : List UInt8} (hs : s ≠ [47]) (k : K (.int .i64 (Lib.indexByte s 47)) w) : Calls prog 116 #[tv s, tv [47]] w (Ret K) := by
  refine c116 ?_
  unfold B116
  refine c147 ?_
  unfold B147
  have hne : decide (([47] : List UInt8) = s) = false := by rw [decide_eq_false_iff_not]; exact fun e => hs e.symm
  simp only [↓o_lenT, ↓o_eqT, hne, ↓o_nil, ↓o_field, ↓o_add, ↓o_sub, ↓o_mul, ↓o_lss, ↓o_leq, ↓o_gtr, ↓o_geq, ↓o_not, ↓o_pick, ↓o_eqInt, ↓o_neInt, ↓o_eqBool, ↓o_neBool, ↓o_eqPtr, ↓o_nePtr, ↓o_eqPtr', ↓o_eqSl, ↓o_neSl, ↓o_eqStr, ↓o_neStr, ↓o_len, ↓o_lenS, ↓o_min, ↓o_max, ↓o_extract, ↓o_convInt, ↓cd_true, ↓cd_false, ↓gate_tt, ↓gate_ff, ↓gate_tf, ↓gate_ft, ↓gate_undef, ↓o_bind, ↓stay_v, ↓pop_cons, ↓fin_nil, Option.isNone_none, Option.isNone_some, Bool.not_true, Bool.not_false, Nat.zero_add, decide_true, decide_false, if_true, if_false, Bool.false_eq_true, ↓reduceIte, show ([47] : List UInt8).length = 1 from rfl, show decide (((1 : Nat) : Int) = 0) = false from rfl, show decide (((1 : Nat) : Int) = 1) = true from rfl]
  rw [o_indexT (by decide) (by decide)]
  refine c174 ?_
  unfold B174
  refine ef_ext (v := .int .i64 (Lib.indexByte s 47)) (fun w => ?_) k
  have h1 : (oCall (.func (.func 189) #[] #[]) #[tv s, bv 47]).run prog w = (vN (Extern.BytealgIndexByte.indexByte #[.string ⟨s.toArray⟩, .int .u8 47])).run prog w := by kernel_rfl
  have e0 : bv (([47] : List UInt8).getD (Int.toNat 0) 0) = bv 47 := rfl
  rw [e0, h1]
  refine vN_run ?_
  have := Lib.run_indexByteString (P := prog) ⟨s.toArray⟩ 47 w
  rw [this]
  rfl
theorem Split_spec (h : sat E w H) (k : ∀ b w', sat E w' (pts b (.cells [tv [116], tv [117], tv []].toArray 9 (0, 0)) * H) → K (.slice (some ⟨b, 0, none⟩) 2 3) w') :
    Calls prog 66 #[tv [116, 47, 117], tv [47], .int .i64 3] w (Ret K) := by
  refine c66 ?_
  unfold B66
  refine c90 ?_
  unfold B90
  unfold jn
  simp only [show decide ((3 : Int) = 0) = false from rfl, show decide (([47] : List UInt8) = []) = false from rfl, show decide ((3 : Int) < 0) = false from rfl, ↓o_lenT, ↓o_eqT, ↓o_nil, ↓o_field, ↓o_add, ↓o_sub, ↓o_mul, ↓o_lss, ↓o_leq, ↓o_gtr, ↓o_geq, ↓o_not, ↓o_pick, ↓o_eqInt, ↓o_neInt, ↓o_eqBool, ↓o_neBool, ↓o_eqPtr, ↓o_nePtr, ↓o_eqPtr', ↓o_eqSl, ↓o_neSl, ↓o_eqStr, ↓o_neStr, ↓o_len, ↓o_lenS, ↓o_min, ↓o_max, ↓o_extract, ↓o_convInt, ↓cd_true, ↓cd_false, ↓gate_tt, ↓gate_ff, ↓gate_tf, ↓gate_ft, ↓gate_undef, ↓o_bind, ↓stay_v, ↓pop_cons, ↓fin_nil, Option.isNone_none, Option.isNone_some, Bool.not_true, Bool.not_false, Nat.zero_add, decide_true, decide_false, if_true, if_false, Bool.false_eq_true, ↓reduceIte]
  refine pvv_of (v := .bool false) (fun w => by kernel_rfl) ?_
  rw [cd_false]
  simp only [show min (3 : Int) (IntKind.i64.wrap ((([116, 47, 117] : List UInt8).length : Int) + 1)) = 3 from rfl, show IntKind.i64.wrap (3 - 1) = 2 from rfl]
  refine make_sl h rfl (by omega) (by omega) (by omega) (by omega) fun b w h => ?_
  have h : sat E w (pts b (.cells [tv [], tv [], tv []].toArray 9 (0, 0)) * H) := h
  show lp _ _ _
  refine lp_nat (fun r σ w => (r = 1 ∧ σ = [tv [116, 47, 117], .int .i64 0] ∧ sat E w (pts b (.cells [tv [], tv [], tv []].toArray 9 (0, 0)) * H)) ∨
      (r = 0 ∧ σ = [tv [117], .int .i64 1] ∧ sat E w (pts b (.cells [tv [116], tv [], tv []].toArray 9 (0, 0)) * H))) 1 (.inl ⟨rfl, rfl, h⟩) ?_
  clear h
  rintro r σ w again (⟨rfl, rfl, h⟩ | ⟨rfl, rfl, h⟩) hag
  · rw [pop_cons, pop_cons, fin_nil, o_lss, decide_eq_true (by omega), cd_true]
    refine IndexC_spec (by decide) ?_
    rw [show (Lib.indexByte [116, 47, 117] 47 : Int) = 1 from rfl, o_lss, decide_eq_false (by omega), cd_false, o_add, show IntKind.i64.wrap (1 + 0) = 1 from rfl, o_sliceT_h (by decide) (by decide)]
    rw [show (3 : Int).toNat = 3 from rfl, o_index (by decide) (by decide)]
    refine store_sl (b := b) h rfl (by decide) fun w h => ?_
    rw [o_add, show IntKind.i64.wrap (1 + ((([47] : List UInt8).length : Nat) : Int)) = 2 from rfl, o_sliceT_l (by decide) (by decide), o_add, show IntKind.i64.wrap (0 + 1) = 1 from rfl]
    exact hag 0 _ _ (by omega) (.inr ⟨rfl, rfl, h⟩)
  · rw [pop_cons, pop_cons, fin_nil, o_lss, decide_eq_true (by omega), cd_true]
    refine IndexC_spec (by decide) ?_
    rw [show (Lib.indexByte [117] 47 : Int) = -1 from rfl, o_lss, decide_eq_true (by omega), cd_true]
    rw [show (3 : Int).toNat = 3 from rfl, o_index (by decide) (by decide)]
    refine store_sl (b := b) h rfl (by decide) fun w h => ?_
    rw [o_add, show IntKind.i64.wrap (1 + 1) = 2 from rfl, o_slice_h (by decide) (by decide)]
    exact k b w h
theorem numbers_spec {v : Value} {ns : List Nat} (hn : ∀ n ∈ ns, n ≤ 4611686018427387904) (hl : ns.length ≤ 1000) (hd : Dbt H) (h : sat E w H) (hv : Rds H v ns.length (ns.map fun n : Nat => tv (numT (n : Int))))
    (k : ∀ u w', sat E w' (osl 3 1 u ns.length (ns.map fun n : Nat => .int .i64 (n : Int)) * H) → K (.tuple #[u, .bool true]) w') : Calls prog 67 #[v] w (Ret K) := by
  obtain ⟨va, vc, rfl, hvc, hv, _⟩ := hv.shape h
  refine c67 ?_
  unfold B67
  simp only [↓o_nil, ↓o_field, ↓o_add, ↓o_sub, ↓o_mul, ↓o_lss, ↓o_leq, ↓o_gtr, ↓o_geq, ↓o_not, ↓o_pick, ↓o_eqInt, ↓o_neInt, ↓o_eqBool, ↓o_neBool, ↓o_eqPtr, ↓o_nePtr, ↓o_eqPtr', ↓o_eqSl, ↓o_neSl, ↓o_eqStr, ↓o_neStr, ↓o_len, ↓o_lenS, ↓o_min, ↓o_max, ↓o_extract, ↓o_convInt, ↓cd_true, ↓cd_false, ↓gate_tt, ↓gate_ff, ↓gate_tf, ↓gate_ft, ↓gate_undef, ↓o_bind, ↓stay_v, ↓pop_cons, ↓fin_nil, Option.isNone_none, Option.isNone_some, Bool.not_true, Bool.not_false, Nat.zero_add, decide_true, decide_false, if_true, if_false, Bool.false_eq_true, ↓reduceIte]
  refine lp_nat (fun r σ w => ∃ (i : Nat) (u : Value), σ = [u, .int .i64 (i : Int)] ∧ r = ns.length - i ∧ i ≤ ns.length ∧ sat E w (osl 3 1 u i ((ns.take i).map fun n : Nat => .int .i64 (n : Int)) * H)) ns.length
    ⟨0, _, rfl, rfl, by omega, osl_nil h 3 1⟩ ?_
  clear h
  rintro r σ w again ⟨i, u, rfl, rfl, hi, h⟩ hag
  rw [pop_cons, pop_cons, fin_nil, o_lss]
  refine cd_dec (fun hlt => ?_) (fun hge => ?_)
  · have hi2 : i < ns.length := by omega
    have hx : ns[i]? = some ns[i] := List.getElem?_eq_getElem hi2
    have hxm : ns[i] ∈ ns := List.getElem_mem hi2
    have htk : ns.take (i + 1) = ns.take i ++ [ns[i]] := List.take_succ_eq_append_getElem hi2
    generalize ns[i] = x at hx hxm htk
    obtain ⟨vb, vo, _, e, _, hrd⟩ := hv.opened (h.drop) (by simp; omega)
    cases e
    rw [o_index (by omega) (by omega), Int.toNat_natCast]
    refine ld_rd h hrd.right i (by omega) (v := tv (numT (x : Int))) (by rw [List.getElem?_map, hx]; rfl) ?_
    have hx1 := hn x hxm
    have hnt : numT (x : Int) = numText x := by unfold numT number; rw [if_neg (by omega), Int.toNat_natCast]
    have hlen : (numText x).length ≤ 100 := by
      have := hexs_length 16 x (by show x < 16 ^ 16; omega)
      simp only [numText, List.length_cons]
      omega
    rw [hnt]
    refine ToNumber_spec h (by omega) fun w h => ?_
    rw [toNum_text hx1]
    simp only [show decide ((0 : Int) = 0) = true from rfl, ↓o_nil, ↓o_field, ↓o_add, ↓o_sub, ↓o_mul, ↓o_lss, ↓o_leq, ↓o_gtr, ↓o_geq, ↓o_not, ↓o_pick, ↓o_eqInt, ↓o_neInt, ↓o_eqBool, ↓o_neBool, ↓o_eqPtr, ↓o_nePtr, ↓o_eqPtr', ↓o_eqSl, ↓o_neSl, ↓o_eqStr, ↓o_neStr, ↓o_len, ↓o_lenS, ↓o_min, ↓o_max, ↓o_extract, ↓o_convInt, ↓cd_true, ↓cd_false, ↓gate_tt, ↓gate_ff, ↓gate_tf, ↓gate_ft, ↓gate_undef, ↓o_bind, ↓stay_v, ↓pop_cons, ↓fin_nil, Option.isNone_none, Option.isNone_some, Bool.not_true, Bool.not_false, Nat.zero_add, decide_true, decide_false, if_true, if_false, Bool.false_eq_true, ↓reduceIte]
    refine push_sl (v := u) h rfl rfl (by omega) (by omega) fun v2 w h => ?_
    try simp only [↓o_nil, ↓o_field, ↓o_add, ↓o_sub, ↓o_mul, ↓o_lss, ↓o_leq, ↓o_gtr, ↓o_geq, ↓o_not, ↓o_pick, ↓o_eqInt, ↓o_neInt, ↓o_eqBool, ↓o_neBool, ↓o_eqPtr, ↓o_nePtr, ↓o_eqPtr', ↓o_eqSl, ↓o_neSl, ↓o_eqStr, ↓o_neStr, ↓o_len, ↓o_lenS, ↓o_min, ↓o_max, ↓o_extract, ↓o_convInt, ↓cd_true, ↓cd_false, ↓gate_tt, ↓gate_ff, ↓gate_tf, ↓gate_ft, ↓gate_undef, ↓o_bind, ↓stay_v, ↓pop_cons, ↓fin_nil, Option.isNone_none, Option.isNone_some, Bool.not_true, Bool.not_false, Nat.zero_add, decide_true, decide_false, if_true, if_false, Bool.false_eq_true, ↓reduceIte]
    rw [i64_of (by omega) (by omega)]
    refine hag (ns.length - (i + 1)) _ _ (by omega) ⟨i + 1, v2, rfl, rfl, by omega, ?_⟩
    rw [htk, List.map_append]
    exact h
  · have hi2 : i = ns.length := by omega
    subst hi2
    rw [List.take_length] at h
    exact k u w h
end Go.Proofs.YtmnaalpjhkkglaaGreatDoor

/-
  The rows of a book with one user, or with none.
-/
set_option linter.all false
set_option maxRecDepth 100000
namespace Go.Proofs.YtmnaalpjhkkglaaGreatDoor
open Go Hold
variable {E : World0} {w : World} {H R : HP} {K : Value → World → Prop}
theorem win_part {b e o n : Nat} {xs ys : List Value} {fr : Nat × Nat} (h : w.heap[b]? = some (.cells xs.toArray e fr)) (hy : (xs.drop o).take n = ys) (c : Nat) (hn : ys.length = n) (hc : n ≤ c) : RdS (hp w) (.slice (some ⟨b, o, none⟩) n c) n ys :=
  ⟨_, c, rfl, hc, .inr ⟨b, o, _, e, fr, rfl, h, fun j v hj => by simpa using take_cell hy hj⟩⟩
/-- What is known of the slots of the rows' heads. -/
theorem cnum_spec (h : sat E w H) (hd : Dbt H) {n : Int} (k : ∀ w', sat E w' H → K (tv (numT n)) w') : Calls prog 40 #[.int .i64 n] w (Ret K) := by
  refine c40 ?_
  unfold B40
  refine Number_spec h hd fun w h => ?_
  unfold nv2
  simp only [↓o_nil, ↓o_field, ↓o_add, ↓o_sub, ↓o_mul, ↓o_lss, ↓o_leq, ↓o_gtr, ↓o_geq, ↓o_not, ↓o_pick, ↓o_eqInt, ↓o_neInt, ↓o_eqBool, ↓o_neBool, ↓o_eqPtr, ↓o_nePtr, ↓o_eqPtr', ↓o_eqSl, ↓o_neSl, ↓o_eqStr, ↓o_neStr, ↓o_len, ↓o_lenS, ↓o_min, ↓o_max, ↓o_extract, ↓o_convInt, ↓cd_true, ↓cd_false, ↓gate_tt, ↓gate_ff, ↓gate_tf, ↓gate_ft, ↓gate_undef, ↓o_bind, ↓stay_v, ↓pop_cons, ↓fin_nil, Option.isNone_none, Option.isNone_some, Bool.not_true, Bool.not_false, Nat.zero_add, decide_true, decide_false, if_true, if_false, Bool.false_eq_true, ↓reduceIte]
  exact k w h
section
variable {p m : Nat}
theorem Rows0_spec (h : sat E w (bkI p m [] R)) (k : ∀ w', sat E w' (bkI p m [] R) → K (.slice none 0 0) w') : Calls prog 18 #[.pointer (some ⟨p, 0, none⟩)] w (Ret K) := by
  refine c18 ?_
  unfold B18
  simp only [↓o_nil, ↓o_field, ↓o_add, ↓o_sub, ↓o_mul, ↓o_lss, ↓o_leq, ↓o_gtr, ↓o_geq, ↓o_not, ↓o_pick, ↓o_eqInt, ↓o_neInt, ↓o_eqBool, ↓o_neBool, ↓o_eqPtr, ↓o_nePtr, ↓o_eqPtr', ↓o_eqSl, ↓o_neSl, ↓o_eqStr, ↓o_neStr, ↓o_len, ↓o_lenS, ↓o_min, ↓o_max, ↓o_extract, ↓o_convInt, ↓cd_true, ↓cd_false, ↓gate_tt, ↓gate_ff, ↓gate_tf, ↓gate_ft, ↓gate_undef, ↓o_bind, ↓stay_v, ↓pop_cons, ↓fin_nil, Option.isNone_none, Option.isNone_some, Bool.not_true, Bool.not_false, Nat.zero_add, decide_true, decide_false, if_true, if_false, Bool.false_eq_true, ↓reduceIte]
  refine ld_in (b := p) (v := .map (some m)) h rfl ?_
  refine Mk.range_sl (κ := K2) (b := m) (l := []) h fun i w h => ?_
  have h : sat E w (Mk.omit_ i m ([] : List (K2 × Value)) [] * (pts p (.cells [Value.map (some m)].toArray 100 (0, 0)) * R)) := h.perm (by ac_rfl)
  refine lp_nat (fun r σ w => σ = [.slice none 0 0] ∧ sat E w (Mk.omit_ i m ([] : List (K2 × Value)) [] * (pts p (.cells [Value.map (some m)].toArray 100 (0, 0)) * R))) 0 ⟨rfl, h⟩ ?_
  clear h
  rintro r σ w again ⟨rfl, h⟩ hag
  rw [pop_cons, fin_nil]
  refine Mk.next_sl (i := i) (b := m) (l := ([] : List (K2 × Value))) (rest := []) h (fun h0 => ?_) (fun j x w hj hen h => by simp at hj)
  rw [o_extract, cd_false]
  refine SortR_spec (by omega) h fun w h => ?_
  have h := Mk.omit_close h
  exact k w (h.perm (by unfold bkI; ac_rfl))
def qk : List UInt8 := [116, 47, 117]
def rcols (r : Rc) : List (List UInt8) := [r.h, r.salt, numT r.cost, numT r.tr, numT r.un]
def φR (r : Rc) : Nat → Value → PP
  | 0, v => ppOf (v = tv r.h)
  | 1, v => ppOf (v = tv (numT r.cost))
  | 2, v => ppOf (v = tv (numT r.tr))
  | 3, v => ppOf (v = tv (numT r.un))
  | _, _ => ppOf True
theorem Rows1_spec {r : Rc} (hr : r.h.length = 32) (hd : Dbt R) (h : sat E w (bkI p m [(qO, .agg (rcc r).toArray)] R))
    (k : ∀ (u cv : Value) w', sat E w' (osl 41 2 u 1 [tv qk, cv] * (osl 9 1 cv 5 ((rcols r).map tv) * bkI p m [(qO, .agg (rcc r).toArray)] R)) → K u w') : Calls prog 18 #[.pointer (some ⟨p, 0, none⟩)] w (Ret K) := by
  refine c18 ?_
  unfold B18
  simp only [↓o_nil, ↓o_field, ↓o_add, ↓o_sub, ↓o_mul, ↓o_lss, ↓o_leq, ↓o_gtr, ↓o_geq, ↓o_not, ↓o_pick, ↓o_eqInt, ↓o_neInt, ↓o_eqBool, ↓o_neBool, ↓o_eqPtr, ↓o_nePtr, ↓o_eqPtr', ↓o_eqSl, ↓o_neSl, ↓o_eqStr, ↓o_neStr, ↓o_len, ↓o_lenS, ↓o_min, ↓o_max, ↓o_extract, ↓o_convInt, ↓cd_true, ↓cd_false, ↓gate_tt, ↓gate_ff, ↓gate_tf, ↓gate_ft, ↓gate_undef, ↓o_bind, ↓stay_v, ↓pop_cons, ↓fin_nil, Option.isNone_none, Option.isNone_some, Bool.not_true, Bool.not_false, Nat.zero_add, decide_true, decide_false, if_true, if_false, Bool.false_eq_true, ↓reduceIte]
  refine ld_in (b := p) (v := .map (some m)) h rfl ?_
  refine Mk.range_sl (κ := K2) (b := m) (l := [(qO, .agg (rcc r).toArray)]) h fun i w h => ?_
  have h : sat E w (Mk.omit_ i m [(qO, .agg (rcc r).toArray)] [(qO, .agg (rcc r).toArray)] * (pts p (.cells [Value.map (some m)].toArray 100 (0, 0)) * R)) := h.perm (by ac_rfl)
  generalize hl : [(qO, Value.agg (rcc r).toArray)] = l at h ⊢
  refine lp_nat (fun q σ w => (q = 1 ∧ σ = [.slice none 0 0] ∧ sat E w (Mk.omit_ i m l l * (pts p (.cells [Value.map (some m)].toArray 100 (0, 0)) * R))) ∨
      ∃ u cv : Value, q = 0 ∧ σ = [u] ∧ sat E w (Mk.omit_ i m l [] * (osl 41 2 u 1 [tv qk, cv] * (osl 9 1 cv 5 ((rcols r).map tv) * (pts p (.cells [Value.map (some m)].toArray 100 (0, 0)) * R))))) 1 (.inl ⟨rfl, rfl, h⟩) ?_
  clear h
  rintro q σ w again (⟨rfl, rfl, h⟩ | ⟨u, cv, rfl, rfl, h⟩) hag
  · rw [pop_cons, fin_nil]
    refine Mk.next_sl (i := i) (b := m) (l := l) (rest := l) h (fun h0 => by rw [← hl] at h0; cases h0) (fun j x w hj hen h => ?_)
    have hx : j = 0 ∧ x = (qO, .agg (rcc r).toArray) := by
      rw [← hl] at hj
      cases j with
      | zero => simp at hj; exact ⟨rfl, hj.symm⟩
      | succ j => simp at hj
    obtain ⟨rfl, rfl⟩ := hx
    have h : sat E w (Mk.omit_ i m l [] * (pts p (.cells [Value.map (some m)].toArray 100 (0, 0)) * R)) := by
      have : l.eraseIdx 0 = [] := by rw [← hl]; rfl
      rw [this] at h
      exact h
    rw [o_extract, cd_true]
    refine efv_of hen ?_
    rw [o_extract, o_extract]
    refine alloc_sl h fun ob w h => ?_
    have h : sat E w (pts ob (.cells [tv [], tv []].toArray 54 (0, 0)) * (Mk.omit_ i m l [] * (pts p (.cells [Value.map (some m)].toArray 100 (0, 0)) * R))) := h
    refine alloc_sl h fun rb w h => ?_
    have h : sat E w (pts rb (.cells (rcc zrc).toArray 105 (0, 0)) * (pts ob (.cells [tv [], tv []].toArray 54 (0, 0)) * (Mk.omit_ i m l [] * (pts p (.cells [Value.map (some m)].toArray 100 (0, 0)) * R)))) := h
    refine store_all (b := ob) h (xs := [tv [], tv []]) (vs := [tv [116], tv [117]]) rfl rfl (by intro v hv; simp at hv; rcases hv with rfl | rfl <;> rfl) fun w h => ?_
    refine store_all (b := rb) h (xs := rcc zrc) (vs := rcc r) rfl (rcc_len hr) (rcc_one r) fun w h => ?_
    try simp only [↓o_nil, ↓o_field, ↓o_add, ↓o_sub, ↓o_mul, ↓o_lss, ↓o_leq, ↓o_gtr, ↓o_geq, ↓o_not, ↓o_pick, ↓o_eqInt, ↓o_neInt, ↓o_eqBool, ↓o_neBool, ↓o_eqPtr, ↓o_nePtr, ↓o_eqPtr', ↓o_eqSl, ↓o_neSl, ↓o_eqStr, ↓o_neStr, ↓o_len, ↓o_lenS, ↓o_min, ↓o_max, ↓o_extract, ↓o_convInt, ↓cd_true, ↓cd_false, ↓gate_tt, ↓gate_ff, ↓gate_tf, ↓gate_ft, ↓gate_undef, ↓o_bind, ↓stay_v, ↓pop_cons, ↓fin_nil, Option.isNone_none, Option.isNone_some, Bool.not_true, Bool.not_false, Nat.zero_add, decide_true, decide_false, if_true, if_false, Bool.false_eq_true, ↓reduceIte]
    refine ld_in (b := ob) (v := tv [116]) h rfl ?_
    refine pvv_of (v := tv [116, 47]) (fun w => by kernel_rfl) ?_
    refine ld_in (b := ob) (v := tv [117]) h rfl ?_
    refine pvv_of (v := tv qk) (fun w => by kernel_rfl) ?_
    refine dr_sl h fun w h _ => ?_
    try simp only [↓o_sliceA, ↓o_nil, ↓o_field, ↓o_add, ↓o_sub, ↓o_mul, ↓o_lss, ↓o_leq, ↓o_gtr, ↓o_geq, ↓o_not, ↓o_pick, ↓o_eqInt, ↓o_neInt, ↓o_eqBool, ↓o_neBool, ↓o_eqPtr, ↓o_nePtr, ↓o_eqPtr', ↓o_eqSl, ↓o_neSl, ↓o_eqStr, ↓o_neStr, ↓o_len, ↓o_lenS, ↓o_min, ↓o_max, ↓o_extract, ↓o_convInt, ↓cd_true, ↓cd_false, ↓gate_tt, ↓gate_ff, ↓gate_tf, ↓gate_ft, ↓gate_undef, ↓o_bind, ↓stay_v, ↓pop_cons, ↓fin_nil, Option.isNone_none, Option.isNone_some, Bool.not_true, Bool.not_false, Nat.zero_add, decide_true, decide_false, if_true, if_false, Bool.false_eq_true, ↓reduceIte]
    refine ld_in (b := rb) (v := tv r.salt) h (rc_salt hr) ?_
    refine ld_in (b := rb) (v := .int .i64 (r.cost : Int)) h (rc_cost hr) ?_
    refine ld_in (b := rb) (v := .int .i64 (r.tr : Int)) h (rc_tr r) ?_
    refine ld_in (b := rb) (v := .int .i64 (r.un : Int)) h (rc_un r) ?_
    have hdI : Dbt (pts rb (.cells (rcc r).toArray 105 (0, 0)) * (pts ob (.cells [tv [116], tv [117]].toArray 54 (0, 0)) * (Mk.omit_ i m l [] * (pts p (.cells [Value.map (some m)].toArray 100 (0, 0)) * R)))) := hd.right.right.right.right
    generalize hX : (pts ob (.cells [tv [116], tv [117]].toArray 54 (0, 0)) * (Mk.omit_ i m l [] * (pts p (.cells [Value.map (some m)].toArray 100 (0, 0)) * R))) = X at h hdI
    refine par_sl (φR r) h ?_
    clear h
    have sn : ∀ {w : World} {Y : HP} {σ : List (Option Value)}, sat E w (Y * slots (φR r) σ (pts rb (.cells (rcc r).toArray 105 (0, 0)) * X)) → w.heap[rb]? = some (.cells (rcc r).toArray 105 (0, 0)) := fun h => sat.has (slots.old h.drop)
    have s1 : ∀ {w : World} {A : Prop} {Y : HP} {σ : List (Option Value)}, sat E w (Y * slots (φR r) σ (pts rb (.cells (rcc r).toArray 105 (0, 0)) * X)) → A → stv prog none (Instr.loadAt 9 (.pointer (some ⟨rb, 34, none⟩))) (tv r.salt) w A := fun h k => st_cell (cell_of (sn h) (by simpa using rc_salt hr)) k
    have s2 : ∀ {w : World} {A : Prop} {Y : HP} {σ : List (Option Value)}, sat E w (Y * slots (φR r) σ (pts rb (.cells (rcc r).toArray 105 (0, 0)) * X)) → A → stv prog none (Instr.loadAt 3 (.pointer (some ⟨rb, 35, none⟩))) (.int .i64 (r.cost : Int)) w A := fun h k => st_cell (cell_of (sn h) (by simpa using rc_cost hr)) k
    have s3 : ∀ {w : World} {A : Prop} {Y : HP} {σ : List (Option Value)}, sat E w (Y * slots (φR r) σ (pts rb (.cells (rcc r).toArray 105 (0, 0)) * X)) → A → stv prog none (Instr.loadAt 3 (.pointer (some ⟨rb, 0, none⟩))) (.int .i64 (r.tr : Int)) w A := fun h k => st_cell (cell_of (sn h) (by simpa using rc_tr r)) k
    have s4 : ∀ {w : World} {A : Prop} {Y : HP} {σ : List (Option Value)}, sat E w (Y * slots (φR r) σ (pts rb (.cells (rcc r).toArray 105 (0, 0)) * X)) → A → stv prog none (Instr.loadAt 3 (.pointer (some ⟨rb, 1, none⟩))) (.int .i64 (r.un : Int)) w A := fun h k => st_cell (cell_of (sn h) (by simpa using rc_un r)) k
    have e1 : ∀ {w : World} {σ : List (Option Value)}, sat E w (slots (φR r) σ (pts rb (.cells (rcc r).toArray 105 (0, 0)) * X)) → sat E w (emp * slots (φR r) σ (pts rb (.cells (rcc r).toArray 105 (0, 0)) * X)) := fun h => h.perm (emp_star _).symm
    refine ⟨?_, ?_, ?_, ?_, ?_⟩
    · intro σ w h hu
      refine conv_bs (l := r.h) (by rw [hr]; exact win_part (sn (e1 h)) (rc_h hr) 32 (by simp [hr]) (Nat.le_refl _)) ?_
      refine s4 (e1 h) (s3 (e1 h) (s2 (e1 h) (s1 (e1 h) ?_)))
      exact slots.put h rfl
    · intro σ w h hu
      refine cnum_spec h (fun E w hs => hdI E w (slots.old hs)) fun w h => ?_
      refine s4 (e1 h) (s3 (e1 h) (s1 (e1 h) ?_))
      exact slots.put h rfl
    · intro σ w h hu
      refine cnum_spec h (fun E w hs => hdI E w (slots.old hs)) fun w h => ?_
      refine s4 (e1 h) (s2 (e1 h) (s1 (e1 h) ?_))
      exact slots.put h rfl
    · intro σ w h hu
      refine cnum_spec h (fun E w hs => hdI E w (slots.old hs)) fun w h => ?_
      refine s3 (e1 h) (s2 (e1 h) (s1 (e1 h) ?_))
      exact slots.put h rfl
    · intro σ w h t0 h0 t1 h1 t2 h2 t3 h3
      obtain rfl : t0 = tv r.h := slots.get h h0
      obtain rfl : t1 = tv (numT r.cost) := slots.get h h1
      obtain rfl : t2 = tv (numT r.tr) := slots.get h h2
      obtain rfl : t3 = tv (numT r.un) := slots.get h h3
      refine buildSlice_sl (e := 9) (cs := ((rcols r).map tv).toArray) h (fun w => by kernel_rfl) fun cb w h => ?_
      refine s4 h (s3 h (s2 h ?_))
      refine pvv_of (v := .agg [tv qk, .slice (some ⟨cb, 0, none⟩) 5 5].toArray) (fun w => by kernel_rfl) ?_
      refine buildSlice_sl (e := 41) (cs := [tv qk, .slice (some ⟨cb, 0, none⟩) 5 5].toArray) h (fun w => by kernel_rfl) fun b5 w h => ?_
      have e2 : ∀ {w : World} {Y Z : HP} {σ : List (Option Value)}, sat E w (Y * (Z * slots (φR r) σ (pts rb (.cells (rcc r).toArray 105 (0, 0)) * X))) → sat E w ((Y * Z) * slots (φR r) σ (pts rb (.cells (rcc r).toArray 105 (0, 0)) * X)) := fun h => h.perm (star_assoc _ _ _).symm
      refine s4 (e2 h) (s3 (e2 h) (s2 (e2 h) (s1 (e2 h) ?_)))
      have h := osl_nil h 41 2
      refine append_sl (v := .slice none 0 0) h [tv qk, .slice (some ⟨cb, 0, none⟩) 5 5] (k' := 1) rfl (.inr ⟨b5, 0, ([tv qk, .slice (some ⟨cb, 0, none⟩) 5 5] : List Value).toArray, _, _, rfl, sat.has h, fun j v hj => by simpa using hj⟩) (by intro z hz; simp at hz; rcases hz with rfl | rfl <;> rfl) (by omega) (by omega) fun v' w h => ?_
      rw [List.nil_append, Nat.zero_add] at h
      have h := h.lose b5
      refine s4 (e2 h) (s3 (e2 h) (s2 (e2 h) (s1 (e2 h) ?_)))
      have h := (h.perm (show _ = pers (slotsP (φR r) σ) * (osl 41 2 v' 1 [tv qk, .slice (some ⟨cb, 0, none⟩) 5 5] * (pts cb (.cells ((rcols r).map tv).toArray 9 (0, 0)) * (pts rb (.cells (rcc r).toArray 105 (0, 0)) * X))) by unfold slots; ac_rfl)).drop
      refine ld_in (b := rb) (v := .slice none 0 0) h (rc_codes hr) ?_
      try simp only [↓o_nil, ↓o_field, ↓o_add, ↓o_sub, ↓o_mul, ↓o_lss, ↓o_leq, ↓o_gtr, ↓o_geq, ↓o_not, ↓o_pick, ↓o_eqInt, ↓o_neInt, ↓o_eqBool, ↓o_neBool, ↓o_eqPtr, ↓o_nePtr, ↓o_eqPtr', ↓o_eqSl, ↓o_neSl, ↓o_eqStr, ↓o_neStr, ↓o_len, ↓o_lenS, ↓o_min, ↓o_max, ↓o_extract, ↓o_convInt, ↓cd_true, ↓cd_false, ↓gate_tt, ↓gate_ff, ↓gate_tf, ↓gate_ft, ↓gate_undef, ↓o_bind, ↓stay_v, ↓pop_cons, ↓fin_nil, Option.isNone_none, Option.isNone_some, Bool.not_true, Bool.not_false, Nat.zero_add, decide_true, decide_false, if_true, if_false, Bool.false_eq_true, ↓reduceIte]
      refine lp_nat (fun q σ w => σ = [v', .int .i64 0] ∧ sat E w (osl 41 2 v' 1 [tv qk, .slice (some ⟨cb, 0, none⟩) 5 5] * (pts cb (.cells ((rcols r).map tv).toArray 9 (0, 0)) * (pts rb (.cells (rcc r).toArray 105 (0, 0)) * X)))) 0 ⟨rfl, h⟩ ?_
      clear h
      rintro q σ w again2 ⟨rfl, h⟩ _
      rw [pop_cons, pop_cons, fin_nil, o_lss, decide_eq_false (by omega), cd_false]
      refine hag 0 _ _ (by omega) (.inr ⟨v', .slice (some ⟨cb, 0, none⟩) 5 5, rfl, rfl, ?_⟩)
      have h := h.perm (star_left_comm _ _ _)
      have h := osl_of (n := 5) (sz := 1) h rfl (by omega)
      rw [← hX] at h
      exact (h.perm (show _ = pts rb (.cells (rcc r).toArray 105 (0, 0)) * (pts ob (.cells [tv [116], tv [117]].toArray 54 (0, 0)) * (Mk.omit_ i m l [] * (osl 41 2 v' 1 [tv qk, .slice (some ⟨cb, 0, none⟩) 5 5] * (osl 9 1 (.slice (some ⟨cb, 0, none⟩) 5 5) 5 ((rcols r).map tv) * (pts p (.cells [Value.map (some m)].toArray 100 (0, 0)) * R))))) by ac_rfl)).drop.drop
  · rw [pop_cons, fin_nil]
    refine Mk.next_sl (i := i) (b := m) (l := l) (rest := []) h (fun h0 => ?_) (fun j x w hj hen h => by simp at hj)
    rw [o_extract, cd_false]
    have h := h.perm (show _ = osl 41 2 u 1 [tv qk, cv] * (Mk.omit_ i m l [] * (osl 9 1 cv 5 ((rcols r).map tv) * (pts p (.cells [Value.map (some m)].toArray 100 (0, 0)) * R))) by ac_rfl)
    obtain ⟨ua, uc, rfl, _, _, _⟩ := osl_shape h
    refine SortR_spec (by omega) h fun w h => ?_
    have h := Mk.omit_close (h.perm (star_left_comm _ _ _))
    subst hl
    refine k _ cv w (h.perm ?_)
    unfold bkI
    ac_rfl
end
end Go.Proofs.YtmnaalpjhkkglaaGreatDoor
