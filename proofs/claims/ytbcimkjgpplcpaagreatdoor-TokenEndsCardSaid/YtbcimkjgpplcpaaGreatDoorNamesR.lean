/-
  Bytes handed back with an error's number.
-/
import Derived.Test.YtbcimkjgpplcpaaGreatDoorPB
import Derived.Test.YtbcimkjgpplcpaaGreatDoorSortK
import Derived.Test.YtbcimkjgpplcpaaGreatDoorCard
import Derived.Laws.Runes
import Derived.Test.YtbcimkjgpplcpaaGreatDoorTokG
import Derived.Test.YtbcimkjgpplcpaaGreatDoorTokF
import Derived.Test.YtbcimkjgpplcpaaGreatDoorPS
import Derived.Test.YtbcimkjgpplcpaaGreatDoorNames
set_option linter.all false
set_option maxRecDepth 10000
namespace Go.Proofs.YtbcimkjgpplcpaaGreatDoor
open Go Hold
variable {E : World0} {w : World} {H R : HP} {K : Value → World → Prop}
theorem gettv {ps : List (List UInt8)} {i : Nat} (h : i < ps.length) : (ps.map tv)[i]? = some (tv (ps.getD i [])) := by
  simp [List.getD_eq_getElem?_getD, h]
/-- Bytes handed back: they are owned. -/
def back (K : Value → World → Prop) (E : World0) (H : HP) (x : List UInt8 × Int) : Prop := ∀ v w, sat E w (osl 5 1 v x.1.length (x.1.map bv) * H) → K (.tuple #[v, .int .i64 x.2]) w
theorem back_nil (h : sat E w H) {e : Int} (k : back K E H ([], e)) : K (.tuple #[.slice none 0 0, .int .i64 e]) w := k _ _ (osl_nil h 5 1)
end Go.Proofs.YtbcimkjgpplcpaaGreatDoor

/-
  Numbers as texts.
-/
set_option linter.all false
set_option maxRecDepth 10000
namespace Go.Proofs.YtbcimkjgpplcpaaGreatDoor
open Go Hold
variable {E : World0} {w : World} {H R : HP} {K : Value → World → Prop}
def digs : List UInt8 := [48, 49, 50, 51, 52, 53, 54, 55, 56, 57, 97, 98, 99, 100, 101, 102]
def dig (n : Nat) : UInt8 := digs.getD n 0
def digs36 : List UInt8 := [48, 49, 50, 51, 52, 53, 54, 55, 56, 57, 97, 98, 99, 100, 101, 102, 103, 104, 105, 106, 107, 108, 109, 110, 111, 112, 113, 114, 115, 116, 117, 118, 119, 120, 121, 122]
theorem digs36_dig : ∀ n, n < 16 → digs36.getD n 0 = dig n := by decide
/-- The digits of a number to the base 16; none for 0. -/
def hexs (n : Nat) : List UInt8 := if h : n = 0 then [] else hexs (n / 16) ++ [dig (n % 16)]
termination_by n
decreasing_by omega
theorem hexs_zero : hexs 0 = [] := by unfold hexs; simp
theorem hexs_pos {n : Nat} (h : n ≠ 0) : hexs n = hexs (n / 16) ++ [dig (n % 16)] := by
  conv => lhs; unfold hexs
  simp [h]
theorem hexs_small {n : Nat} (h : n < 16) (h0 : n ≠ 0) : hexs n = [dig n] := by
  rw [hexs_pos h0, show n / 16 = 0 by omega, hexs_zero, Nat.mod_eq_of_lt h]; rfl
theorem hexs_length : ∀ (k n : Nat), n < 16 ^ k → (hexs n).length ≤ k
  | 0, n, h => by
    have : n = 0 := by simpa using h
    subst this; rw [hexs_zero]; simp
  | k + 1, n, h => by
    by_cases h0 : n = 0
    · subst h0; rw [hexs_zero]; simp
    · rw [hexs_pos h0, List.length_append]
      have := hexs_length k (n / 16) (by rw [Nat.pow_succ] at h; omega)
      simp; omega
/-- FormatInt's text: one nought for 0. -/
def fmt16 (n : Nat) : List UInt8 := if n = 0 then [48] else hexs n
theorem o_and15q {P : Program} {t : TypeId} {u : Nat} (hu : u < 18446744073709551616) {K : Value → World → Prop} : pvv P (binOp .and t (.int .u64 (u : Int)) (.int .u64 15)) w K = K (.int .u64 ((u % 16 : Nat) : Int)) w := pvv_eq fun w => by
  have e : ((BitVec.ofInt 64 (u : Int)) &&& (BitVec.ofInt 64 15)).toNat = u % 16 := by
    rw [BitVec.toNat_and]
    have h1 : (BitVec.ofInt 64 (u : Int)).toNat = u := by simp; omega
    have h2 : (BitVec.ofInt 64 15).toNat = 15 := by decide
    rw [h1, h2]
    exact Nat.and_two_pow_sub_one_eq_mod u 4
  show (pure (.int .u64 (IntKind.u64.wrap (((BitVec.ofInt 64 (u : Int)) &&& (BitVec.ofInt 64 15)).toNat : Int))) : Sem Value).run P w = _
  rw [e]
  have : IntKind.u64.wrap ((u % 16 : Nat) : Int) = ((u % 16 : Nat) : Int) := by rw [IntKind.wrap_u64]; omega
  rw [this]; rfl
/-- The table by which the lowest bit is found. -/
def Dbt (H : HP) : Prop := RdC H 5 15 (.int .u8 4)
theorem TZ_spec (h : sat E w H) (hd : Dbt H) (k : K (.int .i64 4) w) : Calls prog 136 #[.int .u64 16] w (Ret K) := by
  refine c136 ?_
  unfold B136
  rw [cd_false]
  refine c143 ?_
  unfold B143
  rw [o_eqInt, show decide ((16 : Int) = 0) = false from rfl, cd_false]
  refine pvv_of (v := .int .u64 18446744073709551600) (fun w => by kernel_rfl) ?_
  refine pvv_of (v := .int .u64 16) (fun w => by kernel_rfl) ?_
  refine pvv_of (v := .int .u64 4573923408821661840) (fun w => by kernel_rfl) ?_
  refine pvv_of (v := .int .u64 15) (fun w => by kernel_rfl) ?_
  refine pvv_of (v := .pointer (some ⟨5, 15, none⟩)) (fun w => by kernel_rfl) ?_
  refine ld_cell (hd E w h) ?_
  rw [o_convInt]
  exact k
theorem P2_spec (k : K (.bool true) w) : Calls prog 135 #[.int .i64 16] w (Ret K) := by
  refine c135 ?_
  unfold B135
  refine pvv_of (v := .int .i64 15) (fun w => by kernel_rfl) ?_
  refine pvv_of (v := .int .i64 0) (fun w => by kernel_rfl) ?_
  rw [o_eqInt]
  exact k
theorem map_bv_inj : ∀ {l m : List UInt8}, l.map bv = m.map bv → l = m
  | [], [], _ => rfl
  | [], _ :: _, h => by simp at h
  | _ :: _, [], h => by simp at h
  | a :: l, b :: m, h => by
    simp only [List.map_cons, List.cons.injEq] at h
    rw [bv_ne.1 h.1, map_bv_inj h.2]
theorem drop_set_at {α : Type} {xs : List α} {i : Nat} {v : α} {l : List α} (hi : i < xs.length) (h : xs.drop (i + 1) = l) : (xs.set i v).drop i = v :: l := by
  have : (xs.set i v).drop i = (xs.set i v)[i]'(by simpa using hi) :: (xs.set i v).drop (i + 1) := List.drop_eq_getElem_cons (by simpa using hi)
  rw [this, List.getElem_set_self, List.drop_set]
  simp [h]
theorem Format_spec (h : sat E w H) (hd : Dbt H) {n : Nat} (hn : n < 9223372036854775808) (k : ∀ w', sat E w' H → K (tv (fmt16 n)) w') : Calls prog 80 #[.int .i64 (n : Int), .int .i64 16] w (Ret K) := by
  refine c80 ?_
  unfold B80
  refine c101 ?_
  unfold B101
  have hneg : decide ((n : Int) < 0) = false := by simp
  have hw : IntKind.u64.wrap (n : Int) = (n : Int) := by rw [IntKind.wrap_u64]; omega
  simp only [show decide ((16 : Int) = 10) = false from rfl, hneg, hw, ↓o_nil, ↓o_field, ↓o_add, ↓o_sub, ↓o_mul, ↓o_lss, ↓o_leq, ↓o_gtr, ↓o_geq, ↓o_not, ↓o_pick, ↓o_eqInt, ↓o_neInt, ↓o_eqBool, ↓o_neBool, ↓o_eqPtr, ↓o_nePtr, ↓o_eqPtr', ↓o_eqSl, ↓o_neSl, ↓o_eqStr, ↓o_neStr, ↓o_len, ↓o_lenS, ↓o_min, ↓o_max, ↓o_extract, ↓o_convInt, ↓cd_true, ↓cd_false, ↓gate_tt, ↓gate_ff, ↓gate_tf, ↓gate_ft, ↓gate_undef, ↓o_bind, ↓stay_v, ↓pop_cons, ↓fin_nil, Option.isNone_none, Option.isNone_some, Bool.not_true, Bool.not_false, Nat.zero_add, decide_true, decide_false, if_true, if_false, Bool.false_eq_true, ↓reduceIte]
  refine c124 ?_
  unfold B124
  simp only [show decide ((16 : Int) < 2) = false from rfl, show decide ((16 : Int) = 10) = false from rfl, show decide ((36 : Int) < 16) = false from rfl, ↓o_nil, ↓o_field, ↓o_add, ↓o_sub, ↓o_mul, ↓o_lss, ↓o_leq, ↓o_gtr, ↓o_geq, ↓o_not, ↓o_pick, ↓o_eqInt, ↓o_neInt, ↓o_eqBool, ↓o_neBool, ↓o_eqPtr, ↓o_nePtr, ↓o_eqPtr', ↓o_eqSl, ↓o_neSl, ↓o_eqStr, ↓o_neStr, ↓o_len, ↓o_lenS, ↓o_min, ↓o_max, ↓o_extract, ↓o_convInt, ↓cd_true, ↓cd_false, ↓gate_tt, ↓gate_ff, ↓gate_tf, ↓gate_ft, ↓gate_undef, ↓o_bind, ↓stay_v, ↓pop_cons, ↓fin_nil, Option.isNone_none, Option.isNone_some, Bool.not_true, Bool.not_false, Nat.zero_add, decide_true, decide_false, if_true, if_false, Bool.false_eq_true, ↓reduceIte]
  refine jn_cut (fun σ w => σ = [] ∧ sat E w H) (fun kk hkk => hkk _ _ ⟨rfl, h⟩) ?_
  clear h
  rintro σ w ⟨rfl, h⟩
  simp only [↓o_nil, ↓o_field, ↓o_add, ↓o_sub, ↓o_mul, ↓o_lss, ↓o_leq, ↓o_gtr, ↓o_geq, ↓o_not, ↓o_pick, ↓o_eqInt, ↓o_neInt, ↓o_eqBool, ↓o_neBool, ↓o_eqPtr, ↓o_nePtr, ↓o_eqPtr', ↓o_eqSl, ↓o_neSl, ↓o_eqStr, ↓o_neStr, ↓o_len, ↓o_lenS, ↓o_min, ↓o_max, ↓o_extract, ↓o_convInt, ↓cd_true, ↓cd_false, ↓gate_tt, ↓gate_ff, ↓gate_tf, ↓gate_ft, ↓gate_undef, ↓o_bind, ↓stay_v, ↓pop_cons, ↓fin_nil, Option.isNone_none, Option.isNone_some, Bool.not_true, Bool.not_false, Nat.zero_add, decide_true, decide_false, if_true, if_false, Bool.false_eq_true, ↓reduceIte]
  refine alloc_sl h fun b w h => ?_
  have h : sat E w (pts b (.cells (List.replicate 65 (bv 0)).toArray 164 (0, 0)) * H) := h
  refine jn_cut (fun σ w => σ = [.int .u64 (n : Int)] ∧ sat E w (pts b (.cells (List.replicate 65 (bv 0)).toArray 164 (0, 0)) * H)) (fun kk hkk => hkk _ _ ⟨rfl, h⟩) ?_
  clear h
  rintro σ w ⟨rfl, h⟩
  rw [pop_cons, fin_nil]
  refine jn_cut (fun σ w => ∃ (i : Nat) (xs : List Value), σ = [.int .i64 (i : Int)] ∧ xs.length = 65 ∧ i ≤ 65 ∧ xs.drop i = (fmt16 n).map bv ∧ sat E w (pts b (.cells xs.toArray 164 (0, 0)) * H)) (fun kk hkk => ?_) ?_
  · refine P2_spec ?_
    simp only [show IntKind.u64.wrap 16 = 16 from rfl, ↓o_nil, ↓o_field, ↓o_add, ↓o_sub, ↓o_mul, ↓o_lss, ↓o_leq, ↓o_gtr, ↓o_geq, ↓o_not, ↓o_pick, ↓o_eqInt, ↓o_neInt, ↓o_eqBool, ↓o_neBool, ↓o_eqPtr, ↓o_nePtr, ↓o_eqPtr', ↓o_eqSl, ↓o_neSl, ↓o_eqStr, ↓o_neStr, ↓o_len, ↓o_lenS, ↓o_min, ↓o_max, ↓o_extract, ↓o_convInt, ↓cd_true, ↓cd_false, ↓gate_tt, ↓gate_ff, ↓gate_tf, ↓gate_ft, ↓gate_undef, ↓o_bind, ↓stay_v, ↓pop_cons, ↓fin_nil, Option.isNone_none, Option.isNone_some, Bool.not_true, Bool.not_false, Nat.zero_add, decide_true, decide_false, if_true, if_false, Bool.false_eq_true, ↓reduceIte]
    refine TZ_spec h hd.right ?_
    simp only [show IntKind.u64.wrap 16 = 16 from rfl, show IntKind.u64.wrap 4 = 4 from rfl, show IntKind.u64.wrap ((16 : Int) - 1) = 15 from rfl, ↓o_nil, ↓o_field, ↓o_add, ↓o_sub, ↓o_mul, ↓o_lss, ↓o_leq, ↓o_gtr, ↓o_geq, ↓o_not, ↓o_pick, ↓o_eqInt, ↓o_neInt, ↓o_eqBool, ↓o_neBool, ↓o_eqPtr, ↓o_nePtr, ↓o_eqPtr', ↓o_eqSl, ↓o_neSl, ↓o_eqStr, ↓o_neStr, ↓o_len, ↓o_lenS, ↓o_min, ↓o_max, ↓o_extract, ↓o_convInt, ↓cd_true, ↓cd_false, ↓gate_tt, ↓gate_ff, ↓gate_tf, ↓gate_ft, ↓gate_undef, ↓o_bind, ↓stay_v, ↓pop_cons, ↓fin_nil, Option.isNone_none, Option.isNone_some, Bool.not_true, Bool.not_false, Nat.zero_add, decide_true, decide_false, if_true, if_false, Bool.false_eq_true, ↓reduceIte]
    refine lp_nat (fun q σ w => ∃ (u i : Nat) (xs : List Value), σ = [.int .u64 (u : Int), .int .i64 (i : Int)] ∧ q = u ∧ u ≤ n ∧ u < 16 ^ (i - 49) ∧ 49 ≤ i ∧ i ≤ 65 ∧ xs.length = 65 ∧ (n ≠ 0 → u ≠ 0) ∧ (∀ l : List UInt8, xs.drop i = l.map bv → hexs n = hexs u ++ l) ∧ (∃ l : List UInt8, xs.drop i = l.map bv) ∧ sat E w (pts b (.cells xs.toArray 164 (0, 0)) * H)) n
      ⟨n, 65, List.replicate 65 (bv 0), rfl, rfl, Nat.le_refl _, by show n < 16 ^ 16; omega, by omega, by omega, by simp, fun h => h, fun l hl => by
        have : l = [] := by
          have := congrArg List.length hl
          simp at this
          exact List.eq_nil_of_length_eq_zero this.symm
        subst this; simp, ⟨[], by simp⟩, h⟩ ?_
    clear h
    rintro q σ w again ⟨u, i, xs, rfl, hq, hun, hui, hi1, hi2, hxl, hnz, hl1, ⟨l, hl2⟩, h⟩ hag
    rw [pop_cons, pop_cons, fin_nil, o_geq]
    have hu64 : u < 18446744073709551616 := by omega
    refine cd_dec (fun hge => ?_) (fun hlt => ?_)
    · have hi3 : 50 ≤ i := by
        rcases Nat.lt_or_ge i 50 with h5 | h5
        · rw [show i - 49 = 0 by omega] at hui; simp at hui; omega
        · exact h5
      have e1 : IntKind.i64.wrap ((i : Int) - 1) = ((i - 1 : Nat) : Int) := by rw [i64_of (by omega) (by omega)]; omega
      rw [o_sub, e1, o_and15q hu64]
      rw [show (Value.string ⟨#[48, 49, 50, 51, 52, 53, 54, 55, 56, 57, 97, 98, 99, 100, 101, 102, 103, 104, 105, 106, 107, 108, 109, 110, 111, 112, 113, 114, 115, 116, 117, 118, 119, 120, 121, 122]⟩) = tv digs36 from rfl, o_indexT (by omega) (by show u % 16 < 36; omega), Int.toNat_natCast, digs36_dig _ (by omega), o_indexA (by omega) (by omega)]
      refine store_sl (b := b) (o := 0 + ((i - 1 : Nat) : Int).toNat) h rfl (by rw [Int.toNat_natCast]; omega) fun w h => ?_
      rw [show Value.int .u64 4 = Value.int .u64 ((4 : Nat) : Int) from rfl, o_shr (by decide)]
      have hdr : (xs.set (0 + ((i - 1 : Nat) : Int).toNat) (bv (dig (u % 16)))).drop (i - 1) = bv (dig (u % 16)) :: l.map bv := by
        rw [Nat.zero_add, Int.toNat_natCast]
        exact drop_set_at (by omega) (by rw [show i - 1 + 1 = i by omega]; exact hl2)
      refine hag (u / 16) _ _ (by omega) ⟨u / 16, i - 1, _, rfl, rfl, by omega, ?_, by omega, by omega, by rw [List.length_set]; exact hxl, fun h0 => by omega, fun l' hl' => ?_, ⟨dig (u % 16) :: l, hdr⟩, h⟩
      · rw [show i - 49 = (i - 1 - 49) + 1 by omega, Nat.pow_succ] at hui; omega
      · rw [hdr] at hl'
        have e2 : l' = dig (u % 16) :: l := by
          exact (map_bv_inj (by rw [← hl']; rfl)).symm
        rw [e2, hl1 l hl2, hexs_pos (show u ≠ 0 by omega)]; simp
    · have hi3 : 1 ≤ i := by omega
      have e1 : IntKind.i64.wrap ((i : Int) - 1) = ((i - 1 : Nat) : Int) := by rw [i64_of (by omega) (by omega)]; omega
      have hu16 : u < 16 := by omega
      rw [o_sub, e1, show (Value.string ⟨#[48, 49, 50, 51, 52, 53, 54, 55, 56, 57, 97, 98, 99, 100, 101, 102, 103, 104, 105, 106, 107, 108, 109, 110, 111, 112, 113, 114, 115, 116, 117, 118, 119, 120, 121, 122]⟩) = tv digs36 from rfl, o_indexT (by omega) (by show u < 36; omega), Int.toNat_natCast, digs36_dig _ hu16, o_indexA (by omega) (by omega)]
      refine store_sl (b := b) (o := 0 + ((i - 1 : Nat) : Int).toNat) h rfl (by rw [Int.toNat_natCast]; omega) fun w h => ?_
      have hdr : (xs.set (0 + ((i - 1 : Nat) : Int).toNat) (bv (dig u))).drop (i - 1) = bv (dig u) :: l.map bv := by
        rw [Nat.zero_add, Int.toNat_natCast]
        exact drop_set_at (by omega) (by rw [show i - 1 + 1 = i by omega]; exact hl2)
      refine hkk _ _ ⟨i - 1, _, rfl, by rw [List.length_set]; exact hxl, by omega, ?_, h⟩
      rw [hdr]
      have hh := hl1 l hl2
      unfold fmt16
      by_cases h0 : n = 0
      · subst h0
        have hu0 : u = 0 := by omega
        subst hu0
        rw [hexs_zero] at hh
        have : l = [] := by simpa using hh.symm
        subst this
        rfl
      · rw [if_neg h0, hh, hexs_small hu16 (hnz h0)]; rfl
  · clear h
    rintro σ w ⟨i, xs, rfl, hxl, hi, hdr, h⟩
    rw [pop_cons, fin_nil]
    refine jn_cut (fun σ w => σ = [.int .i64 (i : Int)] ∧ sat E w (pts b (.cells xs.toArray 164 (0, 0)) * H)) (fun kk hkk => by (try rw [cd_false]); exact hkk _ _ ⟨rfl, h⟩) ?_
    clear h
    rintro σ w ⟨rfl, h⟩
    have hfl : (fmt16 n).length + i = 65 := by
      have := congrArg List.length hdr
      simp at this; omega
    have hfp : 0 < (fmt16 n).length := by
      unfold fmt16
      split
      · simp
      · rename_i h0; rw [hexs_pos h0]; simp
    rw [pop_cons, fin_nil]
    (try rw [cd_false]); rw [o_sliceA_l (by omega) (by omega), Int.toNat_natCast]
    refine conv_bs (l := fmt16 n) ⟨_, _, by rw [show 65 - i = (fmt16 n).length by omega], by omega, .inr ⟨b, 0 + i, _, _, _, rfl, Has.get h, fun j v hj => ?_⟩⟩ ?_
    · rw [← hdr, List.getElem?_drop] at hj
      simpa using hj
    · try simp only [↓o_nil, ↓o_field, ↓o_add, ↓o_sub, ↓o_mul, ↓o_lss, ↓o_leq, ↓o_gtr, ↓o_geq, ↓o_not, ↓o_pick, ↓o_eqInt, ↓o_neInt, ↓o_eqBool, ↓o_neBool, ↓o_eqPtr, ↓o_nePtr, ↓o_eqPtr', ↓o_eqSl, ↓o_neSl, ↓o_eqStr, ↓o_neStr, ↓o_len, ↓o_lenS, ↓o_min, ↓o_max, ↓o_extract, ↓o_convInt, ↓cd_true, ↓cd_false, ↓gate_tt, ↓gate_ff, ↓gate_tf, ↓gate_ft, ↓gate_undef, ↓o_bind, ↓stay_v, ↓pop_cons, ↓fin_nil, Option.isNone_none, Option.isNone_some, Bool.not_true, Bool.not_false, Nat.zero_add, decide_true, decide_false, if_true, if_false, Bool.false_eq_true, ↓reduceIte]
      exact k _ h.drop
theorem TrimPrefix_spec {s : List UInt8} (k : K (tv (if s.take 1 = [48] then s.drop 1 else s)) w) : Calls prog 79 #[tv s, tv [48]] w (Ret K) := by
  refine c79 ?_
  unfold B79
  refine c100 ?_
  unfold B100
  refine c120 ?_
  unfold B120
  rw [o_lenT, o_lenT, o_geq, show ([48] : List UInt8).length = 1 from rfl]
  by_cases h1 : 1 ≤ s.length
  · have f1 : ((1 : Nat) : Int) ≤ s.length := by omega
    simp only [f1, ↓o_lenT, ↓o_nil, ↓o_field, ↓o_add, ↓o_sub, ↓o_mul, ↓o_lss, ↓o_leq, ↓o_gtr, ↓o_geq, ↓o_not, ↓o_pick, ↓o_eqInt, ↓o_neInt, ↓o_eqBool, ↓o_neBool, ↓o_eqPtr, ↓o_nePtr, ↓o_eqPtr', ↓o_eqSl, ↓o_neSl, ↓o_eqStr, ↓o_neStr, ↓o_len, ↓o_lenS, ↓o_min, ↓o_max, ↓o_extract, ↓o_convInt, ↓cd_true, ↓cd_false, ↓gate_tt, ↓gate_ff, ↓gate_tf, ↓gate_ft, ↓gate_undef, ↓o_bind, ↓stay_v, ↓pop_cons, ↓fin_nil, Option.isNone_none, Option.isNone_some, Bool.not_true, Bool.not_false, Nat.zero_add, decide_true, decide_false, if_true, if_false, Bool.false_eq_true, ↓reduceIte, show ([48] : List UInt8).length = 1 from rfl]
    rw [o_sliceT_h (by omega) (by omega), Int.toNat_natCast]
    simp only [↓o_eqT, ↓o_nil, ↓o_field, ↓o_add, ↓o_sub, ↓o_mul, ↓o_lss, ↓o_leq, ↓o_gtr, ↓o_geq, ↓o_not, ↓o_pick, ↓o_eqInt, ↓o_neInt, ↓o_eqBool, ↓o_neBool, ↓o_eqPtr, ↓o_nePtr, ↓o_eqPtr', ↓o_eqSl, ↓o_neSl, ↓o_eqStr, ↓o_neStr, ↓o_len, ↓o_lenS, ↓o_min, ↓o_max, ↓o_extract, ↓o_convInt, ↓cd_true, ↓cd_false, ↓gate_tt, ↓gate_ff, ↓gate_tf, ↓gate_ft, ↓gate_undef, ↓o_bind, ↓stay_v, ↓pop_cons, ↓fin_nil, Option.isNone_none, Option.isNone_some, Bool.not_true, Bool.not_false, Nat.zero_add, decide_true, decide_false, if_true, if_false, Bool.false_eq_true, ↓reduceIte]
    by_cases h2 : s.take 1 = [48]
    · simp only [h2, ↓o_lenT, ↓o_nil, ↓o_field, ↓o_add, ↓o_sub, ↓o_mul, ↓o_lss, ↓o_leq, ↓o_gtr, ↓o_geq, ↓o_not, ↓o_pick, ↓o_eqInt, ↓o_neInt, ↓o_eqBool, ↓o_neBool, ↓o_eqPtr, ↓o_nePtr, ↓o_eqPtr', ↓o_eqSl, ↓o_neSl, ↓o_eqStr, ↓o_neStr, ↓o_len, ↓o_lenS, ↓o_min, ↓o_max, ↓o_extract, ↓o_convInt, ↓cd_true, ↓cd_false, ↓gate_tt, ↓gate_ff, ↓gate_tf, ↓gate_ft, ↓gate_undef, ↓o_bind, ↓stay_v, ↓pop_cons, ↓fin_nil, Option.isNone_none, Option.isNone_some, Bool.not_true, Bool.not_false, Nat.zero_add, decide_true, decide_false, if_true, if_false, Bool.false_eq_true, ↓reduceIte, show ([48] : List UInt8).length = 1 from rfl]
      rw [o_sliceT_l (by omega) (by omega), Int.toNat_natCast]
      rw [if_pos h2] at k
      exact k
    · simp only [h2, ↓o_nil, ↓o_field, ↓o_add, ↓o_sub, ↓o_mul, ↓o_lss, ↓o_leq, ↓o_gtr, ↓o_geq, ↓o_not, ↓o_pick, ↓o_eqInt, ↓o_neInt, ↓o_eqBool, ↓o_neBool, ↓o_eqPtr, ↓o_nePtr, ↓o_eqPtr', ↓o_eqSl, ↓o_neSl, ↓o_eqStr, ↓o_neStr, ↓o_len, ↓o_lenS, ↓o_min, ↓o_max, ↓o_extract, ↓o_convInt, ↓cd_true, ↓cd_false, ↓gate_tt, ↓gate_ff, ↓gate_tf, ↓gate_ft, ↓gate_undef, ↓o_bind, ↓stay_v, ↓pop_cons, ↓fin_nil, Option.isNone_none, Option.isNone_some, Bool.not_true, Bool.not_false, Nat.zero_add, decide_true, decide_false, if_true, if_false, Bool.false_eq_true, ↓reduceIte]
      rw [if_neg h2] at k
      exact k
  · have f1 : ¬ ((1 : Nat) : Int) ≤ s.length := by omega
    have h0 : s = [] := List.eq_nil_of_length_eq_zero (by omega)
    simp only [f1, ↓o_nil, ↓o_field, ↓o_add, ↓o_sub, ↓o_mul, ↓o_lss, ↓o_leq, ↓o_gtr, ↓o_geq, ↓o_not, ↓o_pick, ↓o_eqInt, ↓o_neInt, ↓o_eqBool, ↓o_neBool, ↓o_eqPtr, ↓o_nePtr, ↓o_eqPtr', ↓o_eqSl, ↓o_neSl, ↓o_eqStr, ↓o_neStr, ↓o_len, ↓o_lenS, ↓o_min, ↓o_max, ↓o_extract, ↓o_convInt, ↓cd_true, ↓cd_false, ↓gate_tt, ↓gate_ff, ↓gate_tf, ↓gate_ft, ↓gate_undef, ↓o_bind, ↓stay_v, ↓pop_cons, ↓fin_nil, Option.isNone_none, Option.isNone_some, Bool.not_true, Bool.not_false, Nat.zero_add, decide_true, decide_false, if_true, if_false, Bool.false_eq_true, ↓reduceIte]
    subst h0
    exact k
/-- The text of a number. -/
def numText (n : Nat) : List UInt8 := UInt8.ofNat (97 + (hexs n).length) :: hexs n
def number (n : Int) : List UInt8 × Int := if n < 0 ∨ 4611686018427387904 < n then ([], 2) else (numText n.toNat, 0)
def nv2 (x : List UInt8 × Int) : Value := .tuple #[tv x.1, .int .i64 x.2]
theorem dig_nought : ∀ n, n < 16 → n ≠ 0 → dig n ≠ 48 := by decide
theorem hexs_first {n : Nat} : (hexs n).take 1 ≠ [48] := by
  induction n using Nat.strongRecOn with
  | _ n ih =>
    by_cases h0 : n = 0
    · subst h0; rw [hexs_zero]; simp
    · rw [hexs_pos h0]
      by_cases h1 : n / 16 = 0
      · rw [h1, hexs_zero]
        have := dig_nought (n % 16) (by omega) (by omega)
        simpa using this
      · have hne : hexs (n / 16) ≠ [] := by rw [hexs_pos h1]; simp
        have := ih (n / 16) (by omega)
        rw [List.take_append_of_le_length (by
          have := List.length_pos_iff.2 hne; omega)]
        exact this
theorem conv_rune {P : Program} {s d : TypeId} {n : Nat} (hn : n < 128) [i : Ul P s (.int .i32)] [j : Ul P d .string] (k : K (tv [UInt8.ofNat n]) w) : pvv P (convert s d (.int .i32 (n : Int))) w K := by
  have key : ∀ n : Fin 128, Utf8.encode (n.val : Int) = ⟨#[UInt8.ofNat n.val]⟩ := by decide +kernel
  refine pvv_of (fun w => run_convert_int_string (P := P) w s d .i32 (n : Int) (by rw [i.ul]; rfl) j.ul) ?_
  rw [key ⟨n, hn⟩]
  exact k
theorem Number_spec (h : sat E w H) (hd : Dbt H) {n : Int} (k : ∀ w', sat E w' H → K (nv2 (number n)) w') : Calls prog 68 #[.int .i64 n] w (Ret K) := by
  refine c68 ?_
  unfold B68
  rw [o_lss]
  by_cases h1 : n < 0
  · simp only [h1, ↓o_nil, ↓o_field, ↓o_add, ↓o_sub, ↓o_mul, ↓o_lss, ↓o_leq, ↓o_gtr, ↓o_geq, ↓o_not, ↓o_pick, ↓o_eqInt, ↓o_neInt, ↓o_eqBool, ↓o_neBool, ↓o_eqPtr, ↓o_nePtr, ↓o_eqPtr', ↓o_eqSl, ↓o_neSl, ↓o_eqStr, ↓o_neStr, ↓o_len, ↓o_lenS, ↓o_min, ↓o_max, ↓o_extract, ↓o_convInt, ↓cd_true, ↓cd_false, ↓gate_tt, ↓gate_ff, ↓gate_tf, ↓gate_ft, ↓gate_undef, ↓o_bind, ↓stay_v, ↓pop_cons, ↓fin_nil, Option.isNone_none, Option.isNone_some, Bool.not_true, Bool.not_false, Nat.zero_add, decide_true, decide_false, if_true, if_false, Bool.false_eq_true, ↓reduceIte]
    have e : number n = ([], 2) := by unfold number; rw [if_pos (.inl h1)]
    rw [e] at k
    exact k _ h
  simp only [h1, ↓o_nil, ↓o_field, ↓o_add, ↓o_sub, ↓o_mul, ↓o_lss, ↓o_leq, ↓o_gtr, ↓o_geq, ↓o_not, ↓o_pick, ↓o_eqInt, ↓o_neInt, ↓o_eqBool, ↓o_neBool, ↓o_eqPtr, ↓o_nePtr, ↓o_eqPtr', ↓o_eqSl, ↓o_neSl, ↓o_eqStr, ↓o_neStr, ↓o_len, ↓o_lenS, ↓o_min, ↓o_max, ↓o_extract, ↓o_convInt, ↓cd_true, ↓cd_false, ↓gate_tt, ↓gate_ff, ↓gate_tf, ↓gate_ft, ↓gate_undef, ↓o_bind, ↓stay_v, ↓pop_cons, ↓fin_nil, Option.isNone_none, Option.isNone_some, Bool.not_true, Bool.not_false, Nat.zero_add, decide_true, decide_false, if_true, if_false, Bool.false_eq_true, ↓reduceIte]
  by_cases h2 : 4611686018427387904 < n
  · simp only [h2, ↓o_nil, ↓o_field, ↓o_add, ↓o_sub, ↓o_mul, ↓o_lss, ↓o_leq, ↓o_gtr, ↓o_geq, ↓o_not, ↓o_pick, ↓o_eqInt, ↓o_neInt, ↓o_eqBool, ↓o_neBool, ↓o_eqPtr, ↓o_nePtr, ↓o_eqPtr', ↓o_eqSl, ↓o_neSl, ↓o_eqStr, ↓o_neStr, ↓o_len, ↓o_lenS, ↓o_min, ↓o_max, ↓o_extract, ↓o_convInt, ↓cd_true, ↓cd_false, ↓gate_tt, ↓gate_ff, ↓gate_tf, ↓gate_ft, ↓gate_undef, ↓o_bind, ↓stay_v, ↓pop_cons, ↓fin_nil, Option.isNone_none, Option.isNone_some, Bool.not_true, Bool.not_false, Nat.zero_add, decide_true, decide_false, if_true, if_false, Bool.false_eq_true, ↓reduceIte]
    have e : number n = ([], 2) := by unfold number; rw [if_pos (.inr h2)]
    rw [e] at k
    exact k _ h
  simp only [h2, ↓o_nil, ↓o_field, ↓o_add, ↓o_sub, ↓o_mul, ↓o_lss, ↓o_leq, ↓o_gtr, ↓o_geq, ↓o_not, ↓o_pick, ↓o_eqInt, ↓o_neInt, ↓o_eqBool, ↓o_neBool, ↓o_eqPtr, ↓o_nePtr, ↓o_eqPtr', ↓o_eqSl, ↓o_neSl, ↓o_eqStr, ↓o_neStr, ↓o_len, ↓o_lenS, ↓o_min, ↓o_max, ↓o_extract, ↓o_convInt, ↓cd_true, ↓cd_false, ↓gate_tt, ↓gate_ff, ↓gate_tf, ↓gate_ft, ↓gate_undef, ↓o_bind, ↓stay_v, ↓pop_cons, ↓fin_nil, Option.isNone_none, Option.isNone_some, Bool.not_true, Bool.not_false, Nat.zero_add, decide_true, decide_false, if_true, if_false, Bool.false_eq_true, ↓reduceIte]
  obtain ⟨n, rfl⟩ := Int.eq_ofNat_of_zero_le (show 0 ≤ n by omega)
  have e : number (n : Int) = (numText n, 0) := by unfold number; rw [if_neg (by omega)]; rfl
  rw [e] at k
  refine Format_spec h hd (by omega) fun w h => ?_
  have hlen : (hexs n).length ≤ 16 := hexs_length 16 n (by show n < 16 ^ 16; omega)
  refine TrimPrefix_spec ?_
  have e2 : (if (fmt16 n).take 1 = [48] then (fmt16 n).drop 1 else fmt16 n) = hexs n := by
    unfold fmt16
    by_cases h0 : n = 0
    · subst h0; rw [if_pos rfl, hexs_zero]; rfl
    · rw [if_neg h0, if_neg hexs_first]
  rw [e2, o_lenT, o_add, i64_of (by omega) (by omega), o_convInt]
  have e3 : IntKind.i32.wrap ((97 : Int) + (hexs n).length) = ((97 + (hexs n).length : Nat) : Int) := by rw [IntKind.wrap_i32]; omega
  rw [e3]
  refine conv_rune (P := prog) (s := 21) (d := 9) (n := 97 + (hexs n).length) (by omega) ?_
  rw [o_catT (by simp; omega)]
  exact k _ h
end Go.Proofs.YtbcimkjgpplcpaaGreatDoor

/-
  The order of rows by their keys; what the sort's test does, to the world.
-/
set_option linter.all false
set_option maxRecDepth 100000
namespace Go.Proofs.YtbcimkjgpplcpaaGreatDoor.T
open Go Hold Go.Sort Go.Shelf
variable {E : World0} {w : World} {H R X : HP} {K : Value → World → Prop}
/-! The order of texts. -/
theorem lexB_irrefl : ∀ a : List UInt8, lexB a a = false
  | [] => by simp [lexB]
  | x :: a => by simp [lexB, lexB_irrefl a]
theorem u8_lt {a b : UInt8} : a < b ↔ a.toNat < b.toNat := UInt8.lt_iff_toNat_lt
theorem u8_eq {a b : UInt8} : a = b ↔ a.toNat = b.toNat := ⟨fun h => by rw [h], fun h => UInt8.toNat_inj.1 h⟩
theorem lexB_trans : ∀ a b c : List UInt8, lexB a b = true → lexB b c = true → lexB a c = true
  | [], [], c, h, _ => by simp [lexB] at h
  | [], _ :: _, [], _, h => by simp [lexB] at h
  | [], _ :: _, _ :: _, _, _ => by simp [lexB]
  | _ :: _, [], _, h, _ => by simp [lexB] at h
  | _ :: _, _ :: _, [], _, h => by simp [lexB] at h
  | x :: a, y :: b, z :: c, h1, h2 => by
    simp only [lexB] at h1 h2 ⊢
    have ih := lexB_trans a b c
    by_cases e1 : x = y
    · subst e1
      rw [if_pos rfl] at h1
      by_cases e2 : x = z
      · subst e2
        rw [if_pos rfl] at h2 ⊢
        exact ih h1 h2
      · rw [if_neg e2] at h2 ⊢
        exact h2
    · rw [if_neg e1] at h1
      have h1 := of_decide_eq_true h1
      by_cases e2 : y = z
      · subst e2
        rw [if_neg e1]
        exact decide_eq_true h1
      · rw [if_neg e2] at h2
        have h2 := of_decide_eq_true h2
        rw [u8_lt] at h1 h2
        rw [if_neg (fun e => by rw [u8_eq] at e; omega)]
        exact decide_eq_true (by rw [u8_lt]; omega)
theorem lexB_ntrans : ∀ a b c : List UInt8, lexB a b = false → lexB b c = false → lexB a c = false
  | [], [], c, _, h => h
  | [], _ :: _, _, h, _ => by simp [lexB] at h
  | _ :: _, _, [], _, _ => by simp [lexB]
  | _ :: _, [], _ :: _, _, h => by simp [lexB] at h
  | x :: a, y :: b, z :: c, h1, h2 => by
    simp only [lexB] at h1 h2 ⊢
    have ih := lexB_ntrans a b c
    by_cases e1 : x = y
    · subst e1
      rw [if_pos rfl] at h1
      by_cases e2 : x = z
      · subst e2
        rw [if_pos rfl] at h2 ⊢
        exact ih h1 h2
      · rw [if_neg e2] at h2 ⊢
        exact h2
    · rw [if_neg e1] at h1
      have h1 := of_decide_eq_false h1
      by_cases e2 : y = z
      · subst e2
        rw [if_neg e1]
        exact decide_eq_false h1
      · rw [if_neg e2] at h2
        have h2 := of_decide_eq_false h2
        rw [u8_lt] at h1 h2
        rw [u8_eq] at e1 e2
        rw [if_neg (fun e => by rw [u8_eq] at e; omega)]
        exact decide_eq_false (by rw [u8_lt]; omega)
/-- A row: its key, and whatever its columns are. -/
structure RW where
  key : List UInt8
  v : Value
  one : v.oneCell' = true
instance : Inhabited RW := ⟨⟨[], .bool false, rfl⟩⟩
def rwc (x : RW) : List Value := [tv x.key, x.v]
theorem rwc_one (x : RW) : ∀ v ∈ rwc x, v.oneCell' = true := by
  intro v hv
  simp [rwc] at hv
  rcases hv with rfl | rfl
  · rfl
  · exact x.one
def cmpT (x y : RW) : Int := if lexB x.key y.key then -1 else if (!lexB x.key y.key && !decide (x.key = y.key)) then 1 else 0
theorem ltOf_cmpT (x y : RW) : ltOf cmpT x y = lexB x.key y.key := by
  unfold ltOf cmpT
  cases h : lexB x.key y.key
  · by_cases h2 : x.key = y.key
    · simp [h2]
    · simp [h2]
  · simp
theorem swoT : SWO (ltOf cmpT) where
  irrefl x := by rw [ltOf_cmpT]; exact lexB_irrefl _
  trans x y z h1 h2 := by rw [ltOf_cmpT] at *; exact lexB_trans _ _ _ h1 h2
  ntrans x y z h1 h2 := by rw [ltOf_cmpT] at *; exact lexB_ntrans _ _ _ h1 h2
theorem Mk_beq (a b : List UInt8) : ((⟨a.toArray⟩ : ByteArray) == ⟨b.toArray⟩) = decide (a = b) := by
  rw [show ((⟨a.toArray⟩ : ByteArray) == ⟨b.toArray⟩) = (a.toArray == b.toArray) from rfl]
  by_cases h : a = b
  · subst h; simp
  · rw [decide_eq_false h]
    simp [h]
theorem NaNT {x : List UInt8} (k : K (.bool false) w) : Calls prog 71 #[tv x] w (Ret K) := by
  refine c71 ?_
  unfold B71
  rw [o_neT, decide_eq_true rfl]
  exact k
theorem o_gtrT {t : TypeId} {a b : List UInt8} : pvv prog (binOp .gtr t (tv a) (tv b)) w K = K (.bool (!lexB a b && !decide (a = b))) w := pvv_eq fun w => by
  have h1 := bytesLess_lexB a b
  have h2 := Mk_beq a b
  simp only [binOp, Op.stringOp, tv]
  have e : ∀ l : List UInt8, (⟨l.toArray⟩ : ByteArray).toList = l := fun l => by rw [ByteArray.toList_eq]
  simp only [e, h1, h2]
  by_cases h : a = b <;> simp [h]
theorem CmpT_spec {x y : RW} (k : K (.int .i64 (cmpT x y)) w) : Calls prog 46 #[tv x.key, tv y.key] w (Ret K) := by
  refine c46 ?_
  unfold B46
  refine NaNT ?_
  refine NaNT ?_
  unfold cmpT at k
  rw [cd_false, cd_false, o_lssT]
  by_cases h : lexB x.key y.key = true
  · rw [h, cd_true]
    rw [if_pos h] at k
    exact k
  · have h : lexB x.key y.key = false := by simpa using h
    rw [h, cd_false, o_gtrT, h]
    rw [h] at k
    cases h2 : (!false && !decide (x.key = y.key))
    · rw [h2] at k
      rw [cd_false]
      exact k
    · rw [h2] at k
      rw [cd_true]
      exact k
theorem cmp_rest {x y : RW} {W : World} {n1 n2 : Nat} (g1 : W.heap[n1]? = some (.cells (rwc x).toArray 84 (0, 0))) (g2 : W.heap[n2]? = some (.cells (rwc y).toArray 84 (0, 0))) (k : K (.int .i64 (cmpT x y)) W) :
    pvv prog (Instr.fieldAt 84 (.pointer (some ⟨n1, 0, none⟩)) 0) W fun t_2 w => ldv prog (Instr.loadAt 9 t_2) w fun t_3 w => pvv prog (Instr.fieldAt 84 (.pointer (some ⟨n2, 0, none⟩)) 0) w fun t_4 w => ldv prog (Instr.loadAt 9 t_4) w fun t_5 w =>
      Calls prog 46 #[t_3, t_5] w (Ret fun t_6 w => K t_6 w) := by
  simp only [↓o_nil, ↓o_field, ↓o_add, ↓o_sub, ↓o_mul, ↓o_lss, ↓o_leq, ↓o_gtr, ↓o_geq, ↓o_not, ↓o_pick, ↓o_eqInt, ↓o_neInt, ↓o_eqBool, ↓o_neBool, ↓o_eqPtr, ↓o_nePtr, ↓o_eqPtr', ↓o_eqSl, ↓o_neSl, ↓o_eqStr, ↓o_neStr, ↓o_len, ↓o_lenS, ↓o_min, ↓o_max, ↓o_extract, ↓o_convInt, ↓cd_true, ↓cd_false, ↓gate_tt, ↓gate_ff, ↓gate_tf, ↓gate_ft, ↓gate_undef, ↓o_bind, ↓stay_v, ↓pop_cons, ↓fin_nil, Option.isNone_none, Option.isNone_some, Bool.not_true, Bool.not_false, Nat.zero_add, decide_true, decide_false, if_true, if_false, Bool.false_eq_true, ↓reduceIte]
  refine ld_cell (v := tv x.key) (cell_of g1 (by rfl)) ?_
  refine ld_cell (v := tv y.key) (cell_of g2 (by rfl)) ?_
  exact CmpT_spec k
theorem box_ex {P : Program} {t : TypeId} {v : Value} (k : K (.pointer (some ⟨w.heap.size, 0, none⟩)) (w.alloc (.cells v.cells t (0, 0)))) : efv P (Instr.box t v) w K :=
  efv_of (v := .pointer (some ⟨w.heap.size, 0, none⟩)) (w' := w.alloc (.cells v.cells t (0, 0))) (by simp [Instr.box, newVar, newRow]) k
theorem alloc_at (W : World) (o : Obj) : (W.alloc o).heap[W.heap.size]? = some o := by
  show (W.heap.push o)[W.heap.size]? = some o
  rw [Array.getElem?_push, if_pos rfl]
theorem alloc_old {W : World} {o o' : Obj} {n : Nat} (h : W.heap[n]? = some o) : (W.alloc o').heap[n]? = some o := by
  have := (Array.getElem?_eq_some_iff.1 h).1
  show (W.heap.push o')[n]? = some o
  rw [Array.getElem?_push, if_neg (by omega)]
  exact h
theorem cmp_body {x y : RW} {W : World} {K : Value → World → Prop} (k : K (.int .i64 (cmpT x y)) ((W.alloc (.cells (rwc x).toArray 84 (0, 0))).alloc (.cells (rwc y).toArray 84 (0, 0)))) : Calls prog 45 #[.agg (rwc x).toArray, .agg (rwc y).toArray] W (Ret K) := by
  refine c45 ?_
  unfold B45
  refine box_ex ?_
  refine box_ex ?_
  exact cmp_rest (x := x) (y := y) (alloc_old (alloc_at W _)) (alloc_at _ _) k
/-- The test, to the world: two blocks are laid. -/
theorem cmp_exact (x y : RW) (W : World) : Calls prog 45 #[.agg (rwc x).toArray, .agg (rwc y).toArray] W fun e w' => e = .returned (.int .i64 (cmpT x y)) ∧ ∃ (q : Nat) (os' : Array Obj), w' = grow (W.drewN q) os' := by
  have hg : (W.alloc (.cells (rwc x).toArray 84 (0, 0))).alloc (.cells (rwc y).toArray 84 (0, 0)) = grow (W.drewN 0) (#[.cells (rwc x).toArray 84 (0, 0)] ++ #[.cells (rwc y).toArray 84 (0, 0)]) := by
    rw [alloc_eq_grow, alloc_eq_grow, grow_grow]
    rfl
  refine (cmp_body (x := x) (y := y) (W := W) (K := fun v w' => v = .int .i64 (cmpT x y) ∧ ∃ (q : Nat) (os' : Array Obj), w' = grow (W.drewN q) os') ⟨rfl, 0, _, hg⟩).mono ?_
  rintro e w' ⟨v, rfl, rfl, q, os', hw⟩
  exact ⟨rfl, q, os', hw⟩
end Go.Proofs.YtbcimkjgpplcpaaGreatDoor.T

/-
  A store's rows: how many they are.
-/
set_option linter.all false
set_option maxRecDepth 100000
namespace Go.Proofs.YtbcimkjgpplcpaaGreatDoor.T
open Go Hold Go.Sort Go.Shelf
variable {E : World0} {w : World} {H R X : HP} {K : Value → World → Prop}
theorem hexs_len (n : Nat) (h : n < 18446744073709551616) : (hexs n).length ≤ 16 := hexs_length 16 n (by show n < 16 ^ 16; omega)
theorem num43 (h : sat E w H) (hd : Dbt H) {n : Int} (k : ∀ (t : List UInt8) w', t.length ≤ 20 → sat E w' H → K (tv t) w') : Calls prog 43 #[.int .i64 n] w (Ret K) := by
  refine c43 ?_
  unfold B43
  refine Number_spec h hd fun w h => ?_
  unfold nv2
  rw [o_extract, o_extract]
  refine k _ w ?_ h
  unfold number
  split
  · simp
  · have := hexs_len n.toNat (by omega)
    simp only [numText, List.length_cons]
    omega
/-- The sort of rows by their keys answers: as many rows. -/
abbrev SortOk : Prop := ∀ (blk off cap : Nat) (d : Array RW) (w : World), HoldsK rwc 2 w blk off d → blk < w.heap.size → d.size < 4611686018427387904 →
  Calls prog 44 #[.slice (some ⟨blk, off, none⟩) d.size cap, .func (.func 45) #[] #[]] w fun e w' => e = .returned (.tuple #[]) ∧ ∃ (d' : Array RW) (n : Nat) (os : Array Obj), d'.size = d.size ∧ w' = sortWorldK rwc 2 w blk off n d' os
theorem Rows_spec {p b c m : Nat} {s : St} (ok : OkS s m) (hf : s.f.length ≤ 1000) (hk : s.k.length ≤ 1000) (hd : Dbt R) (h : sat E w (sI p s b c R))
    (hS : SortOk)
    (k : ∀ sa sc w', sat E w' (sI p s b c R) → K (.slice sa (1 + s.f.length + s.k.length) sc) w') : Calls prog 16 #[.pointer (some ⟨p, 0, none⟩)] w (Ret K) := by
  refine c16 ?_
  unfold B16
  rw [o_eqPtr, Option.isNone_some, cd_false]
  refine dr_sl h fun w h _ => ?_
  simp only [↓o_nil, ↓o_field, ↓o_add, ↓o_sub, ↓o_mul, ↓o_lss, ↓o_leq, ↓o_gtr, ↓o_geq, ↓o_not, ↓o_pick, ↓o_eqInt, ↓o_neInt, ↓o_eqBool, ↓o_neBool, ↓o_eqPtr, ↓o_nePtr, ↓o_eqPtr', ↓o_eqSl, ↓o_neSl, ↓o_eqStr, ↓o_neStr, ↓o_len, ↓o_lenS, ↓o_min, ↓o_max, ↓o_extract, ↓o_convInt, ↓cd_true, ↓cd_false, ↓gate_tt, ↓gate_ff, ↓gate_tf, ↓gate_ft, ↓gate_undef, ↓o_bind, ↓stay_v, ↓pop_cons, ↓fin_nil, Option.isNone_none, Option.isNone_some, Bool.not_true, Bool.not_false, Nat.zero_add, decide_true, decide_false, if_true, if_false, Bool.false_eq_true, ↓reduceIte]
  refine ld_in (b := p) (v := .int .i64 s.fn) h rfl ?_
  refine ld_in (b := p) (v := .int .i64 s.kn) h rfl ?_
  refine ld_in (b := p) (v := .int .i64 s.noted) h rfl ?_
  have hdI : Dbt (sI p s b c R) := hd.right.right.right
  refine num43 h hdI fun n1 w l1 h => ?_
  refine st_in (b := p) (v := .int .i64 s.noted) h rfl ?_
  refine st_in (b := p) (v := .int .i64 s.kn) h rfl ?_
  refine num43 h hdI fun n2 w l2 h => ?_
  refine st_in (b := p) (v := .int .i64 s.noted) h rfl ?_
  refine st_in (b := p) (v := .int .i64 s.fn) h rfl ?_
  refine num43 h hdI fun n3 w l3 h => ?_
  refine st_in (b := p) (v := .int .i64 s.kn) h rfl ?_
  refine st_in (b := p) (v := .int .i64 s.fn) h rfl ?_
  refine buildSlice_sl (e := 9) (cs := #[tv n1, tv n2, tv n3]) h (fun w => by kernel_rfl) fun b1 w h => ?_
  refine st_in (b := p) (v := .int .i64 s.noted) h rfl ?_
  refine st_in (b := p) (v := .int .i64 s.kn) h rfl ?_
  refine st_in (b := p) (v := .int .i64 s.fn) h rfl ?_
  refine pvv_of (v := .agg (rwc ⟨[35], .slice (some ⟨b1, 0, none⟩) 3 3, rfl⟩).toArray) (fun w => by kernel_rfl) ?_
  refine buildSlice_sl (e := 84) (cs := (rwc ⟨[35], .slice (some ⟨b1, 0, none⟩) 3 3, rfl⟩).toArray) h (fun w => by kernel_rfl) fun b2 w h => ?_
  refine st_in (b := p) (v := .int .i64 s.noted) h rfl ?_
  refine st_in (b := p) (v := .int .i64 s.kn) h rfl ?_
  refine st_in (b := p) (v := .int .i64 s.fn) h rfl ?_
  try simp only [↓o_nil, ↓o_field, ↓o_add, ↓o_sub, ↓o_mul, ↓o_lss, ↓o_leq, ↓o_gtr, ↓o_geq, ↓o_not, ↓o_pick, ↓o_eqInt, ↓o_neInt, ↓o_eqBool, ↓o_neBool, ↓o_eqPtr, ↓o_nePtr, ↓o_eqPtr', ↓o_eqSl, ↓o_neSl, ↓o_eqStr, ↓o_neStr, ↓o_len, ↓o_lenS, ↓o_min, ↓o_max, ↓o_extract, ↓o_convInt, ↓cd_true, ↓cd_false, ↓gate_tt, ↓gate_ff, ↓gate_tf, ↓gate_ft, ↓gate_undef, ↓o_bind, ↓stay_v, ↓pop_cons, ↓fin_nil, Option.isNone_none, Option.isNone_some, Bool.not_true, Bool.not_false, Nat.zero_add, decide_true, decide_false, if_true, if_false, Bool.false_eq_true, ↓reduceIte]
  refine ld_in (b := p) (v := .map (some b)) h rfl ?_
  have h : sat E w (osl 84 2 (.slice (some ⟨b2, 0, none⟩) 1 1) 1 (([(⟨[35], .slice (some ⟨b1, 0, none⟩) 3 3, rfl⟩ : RW)] : List RW).flatMap rwc) * (pts b1 (.cells #[tv n1, tv n2, tv n3] 9 (0, 0)) * sI p s b c R)) := osl_of h rfl (by omega)
  have h := h.lose b1
  refine range_sl (b := b) (l := fmp s.f) h fun i w h => ?_
  have h := h.perm (show _ = osl 84 2 (.slice (some ⟨b2, 0, none⟩) 1 1) 1 (([(⟨[35], .slice (some ⟨b1, 0, none⟩) 3 3, rfl⟩ : RW)] : List RW).flatMap rwc) * (omit_ i b (fmp s.f) (fmp s.f) * (pts p (.cells (stcells s b c).toArray 67 (0, 0)) * (omap c (kmp s.k) * R))) by ac_rfl)
  refine lp_nat (fun r σ w => ∃ (rest : List (Int × Value)) (out : Value) (l : List RW), σ = [out] ∧ r = rest.length ∧ (∀ x ∈ rest, ∃ f : Fam, x = (f.id, fv f)) ∧ l.length + rest.length = 1 + s.f.length ∧
      sat E w (osl 84 2 out l.length (l.flatMap rwc) * (omit_ i b (fmp s.f) rest * (pts p (.cells (stcells s b c).toArray 67 (0, 0)) * (omap c (kmp s.k) * R))))) s.f.length
    ⟨fmp s.f, _, [_], rfl, by rw [mpG_length], fun x hx => ?_, by rw [mpG_length]; rfl, h⟩ ?_
  · obtain ⟨f, hf, rfl⟩ := List.mem_map.1 hx
    exact ⟨f, rfl⟩
  clear h
  rintro r σ w again ⟨rest, out, l, rfl, rfl, hin, hcnt, h⟩ hag
  have hdL : ∀ {X Y Z V : HP}, Dbt (X * (Y * (Z * (V * R)))) := fun {X Y Z V} => hd.right.right.right.right
  rw [pop_cons, fin_nil]
  refine next_sl (i := i) (b := b) (l := fmp s.f) (rest := rest) h (fun h0 => ?_) (fun j x w hj hen h => ?_)
  · subst h0
    rw [o_extract, cd_false]
    try simp only [↓o_nil, ↓o_field, ↓o_add, ↓o_sub, ↓o_mul, ↓o_lss, ↓o_leq, ↓o_gtr, ↓o_geq, ↓o_not, ↓o_pick, ↓o_eqInt, ↓o_neInt, ↓o_eqBool, ↓o_neBool, ↓o_eqPtr, ↓o_nePtr, ↓o_eqPtr', ↓o_eqSl, ↓o_neSl, ↓o_eqStr, ↓o_neStr, ↓o_len, ↓o_lenS, ↓o_min, ↓o_max, ↓o_extract, ↓o_convInt, ↓cd_true, ↓cd_false, ↓gate_tt, ↓gate_ff, ↓gate_tf, ↓gate_ft, ↓gate_undef, ↓o_bind, ↓stay_v, ↓pop_cons, ↓fin_nil, Option.isNone_none, Option.isNone_some, Bool.not_true, Bool.not_false, Nat.zero_add, decide_true, decide_false, if_true, if_false, Bool.false_eq_true, ↓reduceIte]
    have hl1 : l.length = 1 + s.f.length := by simpa using hcnt
    have h := omit_close (h.perm (star_left_comm _ _ _))
    have h := h.perm (show _ = osl 84 2 out l.length (l.flatMap rwc) * sI p s b c R by unfold sI; ac_rfl)
    refine ld_in (b := p) (v := .map (some c)) h rfl ?_
    refine range_sl (b := c) (l := kmp s.k) h fun i2 w h => ?_
    have h := h.perm (show _ = osl 84 2 out l.length (l.flatMap rwc) * (omit_ i2 c (kmp s.k) (kmp s.k) * (pts p (.cells (stcells s b c).toArray 67 (0, 0)) * (omap b (fmp s.f) * R))) by ac_rfl)
    refine lp_nat (fun r σ w => ∃ (rest : List (Int × Value)) (out : Value) (l : List RW), σ = [out] ∧ r = rest.length ∧ (∀ x ∈ rest, ∃ f : Tok, x = (f.id, kv f)) ∧ l.length + rest.length = 1 + s.f.length + s.k.length ∧
        sat E w (osl 84 2 out l.length (l.flatMap rwc) * (omit_ i2 c (kmp s.k) rest * (pts p (.cells (stcells s b c).toArray 67 (0, 0)) * (omap b (fmp s.f) * R))))) s.k.length
      ⟨kmp s.k, _, l, rfl, by rw [mpG_length], fun x hx => ?_, by rw [mpG_length, hl1], h⟩ ?_
    · obtain ⟨f, hf, rfl⟩ := List.mem_map.1 hx
      exact ⟨f, rfl⟩
    clear h hag hcnt hin hl1
    rintro r σ w again ⟨rest, out, l, rfl, rfl, hin, hcnt, h⟩ hag
    rw [pop_cons, fin_nil]
    refine next_sl (i := i2) (b := c) (l := kmp s.k) (rest := rest) h (fun h0 => ?_) (fun j x w hj hen h => ?_)
    · subst h0
      rw [o_extract, cd_false]
      have hl1 : l.length = 1 + s.f.length + s.k.length := by simpa using hcnt
      refine sortf_sl (k := 2) (by omega) (fun _ => rfl) hS h (by omega) (by omega) fun l' w hl' h => ?_
      obtain ⟨ua, uc, rfl, huc, _, _⟩ := osl_shape h
      have h := omit_close (h.perm (star_left_comm _ _ _))
      have h := h.perm (show _ = osl 84 2 (.slice ua l'.length uc) l'.length (l'.flatMap rwc) * sI p s b c R by unfold sI; ac_rfl)
      rw [hl', hl1]
      exact k ua uc w h.drop
    · rw [o_extract, cd_true]
      refine efv_of hen ?_
      obtain ⟨f, rfl⟩ := hin x (List.mem_of_getElem? hj)
      rw [o_extract, o_extract]
      have hlt := (List.getElem?_eq_some_iff.1 hj).1
      have hel : (rest.eraseIdx j).length = rest.length - 1 := by rw [List.length_eraseIdx, if_pos hlt]
      have hin2 : ∀ x ∈ rest.eraseIdx j, ∃ f : Tok, x = (f.id, kv f) := fun x hx => hin x ((List.eraseIdx_sublist _ _).subset hx)
      refine tok_in (x := f) h fun fb w h => ?_
      have h := h.perm (show _ = pts fb (.cells (kcells f).toArray 49 (0, 0)) * (osl 84 2 out l.length (l.flatMap rwc) * (omit_ i2 c (kmp s.k) (rest.eraseIdx j) * (pts p (.cells (stcells s b c).toArray 67 (0, 0)) * (omap b (fmp s.f) * R)))) by ac_rfl)
      refine dr_sl h fun w h _ => ?_
      try simp only [↓o_nil, ↓o_field, ↓o_add, ↓o_sub, ↓o_mul, ↓o_lss, ↓o_leq, ↓o_gtr, ↓o_geq, ↓o_not, ↓o_pick, ↓o_eqInt, ↓o_neInt, ↓o_eqBool, ↓o_neBool, ↓o_eqPtr, ↓o_nePtr, ↓o_eqPtr', ↓o_eqSl, ↓o_neSl, ↓o_eqStr, ↓o_neStr, ↓o_len, ↓o_lenS, ↓o_min, ↓o_max, ↓o_extract, ↓o_convInt, ↓cd_true, ↓cd_false, ↓gate_tt, ↓gate_ff, ↓gate_tf, ↓gate_ft, ↓gate_undef, ↓o_bind, ↓stay_v, ↓pop_cons, ↓fin_nil, Option.isNone_none, Option.isNone_some, Bool.not_true, Bool.not_false, Nat.zero_add, decide_true, decide_false, if_true, if_false, Bool.false_eq_true, ↓reduceIte]
      refine ld_in (b := fb) (v := .int .i64 f.fam) h rfl ?_
      refine ld_in (b := fb) (v := bv f.sc) h rfl ?_
      unfold bv
      try simp only [↓o_nil, ↓o_field, ↓o_add, ↓o_sub, ↓o_mul, ↓o_lss, ↓o_leq, ↓o_gtr, ↓o_geq, ↓o_not, ↓o_pick, ↓o_eqInt, ↓o_neInt, ↓o_eqBool, ↓o_neBool, ↓o_eqPtr, ↓o_nePtr, ↓o_eqPtr', ↓o_eqSl, ↓o_neSl, ↓o_eqStr, ↓o_neStr, ↓o_len, ↓o_lenS, ↓o_min, ↓o_max, ↓o_extract, ↓o_convInt, ↓cd_true, ↓cd_false, ↓gate_tt, ↓gate_ff, ↓gate_tf, ↓gate_ft, ↓gate_undef, ↓o_bind, ↓stay_v, ↓pop_cons, ↓fin_nil, Option.isNone_none, Option.isNone_some, Bool.not_true, Bool.not_false, Nat.zero_add, decide_true, decide_false, if_true, if_false, Bool.false_eq_true, ↓reduceIte]
      refine ld_in (b := fb) (v := .int .i64 f.til) h rfl ?_
      have hdF : Dbt (pts fb (.cells (kcells f).toArray 49 (0, 0)) * (osl 84 2 out l.length (l.flatMap rwc) * (omit_ i2 c (kmp s.k) (rest.eraseIdx j) * (pts p (.cells (stcells s b c).toArray 67 (0, 0)) * (omap b (fmp s.f) * R))))) := hd.right.right.right.right.right
      refine num43 h hdF fun t1 w k1 h => ?_
      refine st_in (b := fb) (v := .int .i64 f.til) h rfl ?_
      refine st_in (b := fb) (v := bv f.sc) h rfl ?_
      refine st_in (b := fb) (v := .int .i64 f.fam) h rfl ?_
      rw [show (.string ⟨#[116]⟩ : Value) = tv [116] from rfl, o_catT (by simp; omega)]
      refine num43 h hdF fun t2 w k2 h => ?_
      refine st_in (b := fb) (v := .int .i64 f.til) h rfl ?_
      refine st_in (b := fb) (v := bv f.sc) h rfl ?_
      refine num43 h hdF fun t3 w k3 h => ?_
      refine st_in (b := fb) (v := .int .i64 f.til) h rfl ?_
      refine st_in (b := fb) (v := bv f.sc) h rfl ?_
      refine st_in (b := fb) (v := .int .i64 f.fam) h rfl ?_
      refine num43 h hdF fun t4 w k4 h => ?_
      refine st_in (b := fb) (v := bv f.sc) h rfl ?_
      refine st_in (b := fb) (v := .int .i64 f.fam) h rfl ?_
      refine buildSlice_sl (e := 9) (cs := #[tv t2, tv t3, tv t4]) h (fun w => by kernel_rfl) fun b4 w h => ?_
      refine st_in (b := fb) (v := .int .i64 f.til) h rfl ?_
      refine st_in (b := fb) (v := bv f.sc) h rfl ?_
      refine st_in (b := fb) (v := .int .i64 f.fam) h rfl ?_
      refine pvv_of (v := .agg (rwc ⟨[116] ++ t1, .slice (some ⟨b4, 0, none⟩) 3 3, rfl⟩).toArray) (fun w => by kernel_rfl) ?_
      refine buildSlice_sl (e := 84) (cs := (rwc ⟨[116] ++ t1, .slice (some ⟨b4, 0, none⟩) 3 3, rfl⟩).toArray) h (fun w => by kernel_rfl) fun b5 w h => ?_
      refine st_in (b := fb) (v := .int .i64 f.til) h rfl ?_
      refine st_in (b := fb) (v := bv f.sc) h rfl ?_
      refine st_in (b := fb) (v := .int .i64 f.fam) h rfl ?_
      refine append_sl (v := out) h (rwc ⟨[116] ++ t1, .slice (some ⟨b4, 0, none⟩) 3 3, rfl⟩) (k' := 1) rfl (.inr ⟨b5, 0, _, _, _, rfl, h.pts_get, fun j v hj => by simpa using hj⟩) (rwc_one _) (by omega) (by omega) fun v' w h => ?_
      refine st_in (b := fb) (v := .int .i64 f.til) h rfl ?_
      refine st_in (b := fb) (v := bv f.sc) h rfl ?_
      refine st_in (b := fb) (v := .int .i64 f.fam) h rfl ?_
      refine hag (rest.eraseIdx j).length _ _ (by omega) ⟨rest.eraseIdx j, v', l ++ [⟨[116] ++ t1, .slice (some ⟨b4, 0, none⟩) 3 3, rfl⟩], rfl, rfl, hin2, by rw [List.length_append, List.length_singleton]; omega, ?_⟩
      have h := ((h.lose b5).lose b4).lose fb
      rw [List.length_append, List.length_singleton, List.flatMap_append]
      simpa using h
  · rw [o_extract, cd_true]
    refine efv_of hen ?_
    obtain ⟨f, rfl⟩ := hin x (List.mem_of_getElem? hj)
    rw [o_extract, o_extract]
    have hlt := (List.getElem?_eq_some_iff.1 hj).1
    have hel : (rest.eraseIdx j).length = rest.length - 1 := by rw [List.length_eraseIdx, if_pos hlt]
    have hin2 : ∀ x ∈ rest.eraseIdx j, ∃ f : Fam, x = (f.id, fv f) := fun x hx => hin x ((List.eraseIdx_sublist _ _).subset hx)
    refine fam_in (x := f) h fun fb w h => ?_
    have h := h.perm (show _ = pts fb (.cells (fcells f).toArray 35 (0, 0)) * (osl 84 2 out l.length (l.flatMap rwc) * (omit_ i b (fmp s.f) (rest.eraseIdx j) * (pts p (.cells (stcells s b c).toArray 67 (0, 0)) * (omap c (kmp s.k) * R)))) by ac_rfl)
    refine dr_sl h fun w h _ => ?_
    try simp only [↓o_nil, ↓o_field, ↓o_add, ↓o_sub, ↓o_mul, ↓o_lss, ↓o_leq, ↓o_gtr, ↓o_geq, ↓o_not, ↓o_pick, ↓o_eqInt, ↓o_neInt, ↓o_eqBool, ↓o_neBool, ↓o_eqPtr, ↓o_nePtr, ↓o_eqPtr', ↓o_eqSl, ↓o_neSl, ↓o_eqStr, ↓o_neStr, ↓o_len, ↓o_lenS, ↓o_min, ↓o_max, ↓o_extract, ↓o_convInt, ↓cd_true, ↓cd_false, ↓gate_tt, ↓gate_ff, ↓gate_tf, ↓gate_ft, ↓gate_undef, ↓o_bind, ↓stay_v, ↓pop_cons, ↓fin_nil, Option.isNone_none, Option.isNone_some, Bool.not_true, Bool.not_false, Nat.zero_add, decide_true, decide_false, if_true, if_false, Bool.false_eq_true, ↓reduceIte]
    refine ld_in (b := fb) (v := .int .i64 f.ses) h rfl ?_
    refine ld_in (b := fb) (v := tv f.cl) h rfl ?_
    refine ld_in (b := fb) (v := bv f.sc) h rfl ?_
    unfold bv
    try simp only [↓o_nil, ↓o_field, ↓o_add, ↓o_sub, ↓o_mul, ↓o_lss, ↓o_leq, ↓o_gtr, ↓o_geq, ↓o_not, ↓o_pick, ↓o_eqInt, ↓o_neInt, ↓o_eqBool, ↓o_neBool, ↓o_eqPtr, ↓o_nePtr, ↓o_eqPtr', ↓o_eqSl, ↓o_neSl, ↓o_eqStr, ↓o_neStr, ↓o_len, ↓o_lenS, ↓o_min, ↓o_max, ↓o_extract, ↓o_convInt, ↓cd_true, ↓cd_false, ↓gate_tt, ↓gate_ff, ↓gate_tf, ↓gate_ft, ↓gate_undef, ↓o_bind, ↓stay_v, ↓pop_cons, ↓fin_nil, Option.isNone_none, Option.isNone_some, Bool.not_true, Bool.not_false, Nat.zero_add, decide_true, decide_false, if_true, if_false, Bool.false_eq_true, ↓reduceIte]
    refine ld_in (b := fb) (v := .int .i64 f.nx) h rfl ?_
    have hdF : Dbt (pts fb (.cells (fcells f).toArray 35 (0, 0)) * (osl 84 2 out l.length (l.flatMap rwc) * (omit_ i b (fmp s.f) (rest.eraseIdx j) * (pts p (.cells (stcells s b c).toArray 67 (0, 0)) * (omap c (kmp s.k) * R))))) := hd.right.right.right.right.right
    refine num43 h hdF fun t1 w k1 h => ?_
    refine st_in (b := fb) (v := .int .i64 f.nx) h rfl ?_
    refine st_in (b := fb) (v := bv f.sc) h rfl ?_
    refine st_in (b := fb) (v := tv f.cl) h rfl ?_
    refine st_in (b := fb) (v := .int .i64 f.ses) h rfl ?_
    rw [show (.string ⟨#[102]⟩ : Value) = tv [102] from rfl, o_catT (by simp; omega)]
    refine num43 h hdF fun t2 w k2 h => ?_
    refine st_in (b := fb) (v := .int .i64 f.nx) h rfl ?_
    refine st_in (b := fb) (v := bv f.sc) h rfl ?_
    refine st_in (b := fb) (v := tv f.cl) h rfl ?_
    refine num43 h hdF fun t3 w k3 h => ?_
    refine st_in (b := fb) (v := .int .i64 f.nx) h rfl ?_
    refine st_in (b := fb) (v := bv f.sc) h rfl ?_
    refine st_in (b := fb) (v := tv f.cl) h rfl ?_
    refine st_in (b := fb) (v := .int .i64 f.ses) h rfl ?_
    refine num43 h hdF fun t4 w k4 h => ?_
    refine st_in (b := fb) (v := bv f.sc) h rfl ?_
    refine st_in (b := fb) (v := tv f.cl) h rfl ?_
    refine st_in (b := fb) (v := .int .i64 f.ses) h rfl ?_
    refine buildSlice_sl (e := 9) (cs := #[tv t2, tv f.cl, tv t3, tv t4]) h (fun w => by kernel_rfl) fun b4 w h => ?_
    refine st_in (b := fb) (v := .int .i64 f.nx) h rfl ?_
    refine st_in (b := fb) (v := bv f.sc) h rfl ?_
    refine st_in (b := fb) (v := .int .i64 f.ses) h rfl ?_
    refine pvv_of (v := .agg (rwc ⟨[102] ++ t1, .slice (some ⟨b4, 0, none⟩) 4 4, rfl⟩).toArray) (fun w => by kernel_rfl) ?_
    refine buildSlice_sl (e := 84) (cs := (rwc ⟨[102] ++ t1, .slice (some ⟨b4, 0, none⟩) 4 4, rfl⟩).toArray) h (fun w => by kernel_rfl) fun b5 w h => ?_
    refine st_in (b := fb) (v := .int .i64 f.nx) h rfl ?_
    refine st_in (b := fb) (v := bv f.sc) h rfl ?_
    refine st_in (b := fb) (v := tv f.cl) h rfl ?_
    refine st_in (b := fb) (v := .int .i64 f.ses) h rfl ?_
    refine append_sl (v := out) h (rwc ⟨[102] ++ t1, .slice (some ⟨b4, 0, none⟩) 4 4, rfl⟩) (k' := 1) rfl (.inr ⟨b5, 0, _, _, _, rfl, h.pts_get, fun j v hj => by simpa using hj⟩) (rwc_one _) (by omega) (by omega) fun v' w h => ?_
    refine st_in (b := fb) (v := .int .i64 f.nx) h rfl ?_
    refine st_in (b := fb) (v := bv f.sc) h rfl ?_
    refine st_in (b := fb) (v := tv f.cl) h rfl ?_
    refine st_in (b := fb) (v := .int .i64 f.ses) h rfl ?_
    refine hag (rest.eraseIdx j).length _ _ (by omega) ⟨rest.eraseIdx j, v', l ++ [⟨[102] ++ t1, .slice (some ⟨b4, 0, none⟩) 4 4, rfl⟩], rfl, rfl, hin2, by rw [List.length_append, List.length_singleton]; omega, ?_⟩
    have h := ((h.lose b5).lose b4).lose fb
    rw [List.length_append, List.length_singleton, List.flatMap_append]
    simpa using h
end Go.Proofs.YtbcimkjgpplcpaaGreatDoor.T

/-
  slices.Sorted(maps.Keys(m)): the keys of a map of things (Token), rising.
-/
set_option linter.all false
set_option maxRecDepth 100000
namespace Go.Proofs.YtbcimkjgpplcpaaGreatDoor.KT
open Go Hold
variable {E : World0} {w : World} {H R : HP} {K : Value → World → Prop}
def boxM (mb b : Nat) : HP := pts mb (.cells #[.map (some b)] 63 (0, 0))
instance hasM (mb b : Nat) : Has (boxM mb b) mb (.cells [Value.map (some b)].toArray 63 (0, 0)) := ⟨fun h => (h.perm (star_emp _).symm).pts_get⟩
theorem erase_perm {α : Type} {l : List α} {j : Nat} {x : α} (h : l[j]? = some x) : (x :: l.eraseIdx j).Perm l := by
  induction l generalizing j with
  | nil => simp at h
  | cons y l ih =>
    cases j with
    | zero => simp at h; subst h; exact List.Perm.refl _
    | succ j =>
      simp only [List.getElem?_cons_succ] at h
      rw [List.eraseIdx_cons_succ]
      exact (List.Perm.swap y x _).trans ((ih h).cons y)
theorem KeysIt_spec {b mb : Nat} {l : List (Int × Value)} {y : Value} (G : List Int → HP) (h : sat E w (G [] * (omap b l * (boxM mb b * H))))
    (hy : ∀ (ss : List Int) (x : Int) (F : HP) (w : World) (K' : Value → World → Prop), ss.length < l.length → sat E w (G ss * F) → (∀ w', sat E w' (G (ss ++ [x]) * F) → K' (.bool true) w') → ef prog (oCall y #[.int .i64 x]) w K')
    (k : ∀ (ss : List Int) w', ss.Perm (l.map (·.1)) → sat E w' (G ss * (omap b l * (boxM mb b * H))) → K (.tuple #[]) w') : Calls prog 77 #[y, .pointer (some ⟨mb, 0, none⟩)] w (Ret K) := by
  refine c77 ?_
  unfold B77
  refine ld_in (b := mb) (v := .map (some b)) h rfl ?_
  refine range_sl h fun i w h => ?_
  refine lp_nat (fun q σ w => ∃ (rest : List (Int × Value)) (ss : List Int), σ = [] ∧ q = rest.length ∧ (ss ++ rest.map (·.1)).Perm (l.map (·.1)) ∧ sat E w (omit_ i b l rest * (G ss * (boxM mb b * H)))) l.length ⟨l, [], rfl, rfl, List.Perm.refl _, h⟩ ?_
  clear h
  rintro q σ w again ⟨rest, ss, rfl, rfl, hp, h⟩ hag
  rw [fin_nil]
  refine next_sl (i := i) (b := b) (l := l) (rest := rest) h (fun h0 => ?_) (fun j x w hj hen h => ?_)
  · subst h0
    rw [o_extract, cd_false]
    simp only [List.map_nil, List.append_nil] at hp
    exact k ss w hp ((omit_close h).perm (star_left_comm _ _ _))
  · rw [o_extract, cd_true]
    refine efv_of hen ?_
    rw [o_extract]
    have hlt := (List.getElem?_eq_some_iff.1 hj).1
    have hl := hp.length_eq
    simp only [List.length_append, List.length_map] at hl
    have h := h.perm (show _ = G ss * (omit_ i b l (rest.eraseIdx j) * (boxM mb b * H)) by ac_rfl)
    refine hy ss x.1 _ w _ (by omega) h fun w h => ?_
    rw [o_not, Bool.not_true, cd_false]
    refine hag (rest.eraseIdx j).length _ _ (by rw [List.length_eraseIdx, if_pos hlt]; omega) ⟨rest.eraseIdx j, ss ++ [x.1], rfl, rfl, ?_, h.perm (by ac_rfl)⟩
    refine List.Perm.trans ?_ hp
    rw [List.append_assoc]
    refine List.Perm.append_left ss ?_
    exact (erase_perm hj).map (·.1)
theorem iv_one (l : List Int) : ∀ x ∈ l.map iv, x.oneCell' = true := by
  intro x hx
  obtain ⟨_, _, rfl⟩ := List.mem_map.1 hx
  rfl
theorem AppendSeq_spec {b mb : Nat} {l : List (Int × Value)} (hl : l.length ≤ 1000000) (h : sat E w (omap b l * (boxM mb b * H)))
    (k : ∀ (u : Value) (ss : List Int) w', ss.Perm (l.map (·.1)) → sat E w' (osl 3 1 u ss.length (ss.map iv) * (omap b l * (boxM mb b * H))) → K u w') :
    Calls prog 98 #[.slice none 0 0, .func (.func 77) #[] #[.pointer (some ⟨mb, 0, none⟩)]] w (Ret K) := by
  refine c98 ?_
  unfold B98
  refine box_sl h fun sb w h => ?_
  have h : sat E w (pts sb (.cells [Value.slice none 0 0].toArray 23 (0, 0)) * (omap b l * (boxM mb b * H))) := h
  refine rng_body h Tryz.func77 (by kernel_rfl) (by kernel_rfl) fun rec D D1 w h hround => ?_
  have h : sat E w (ex (fun v : Value => pts D1 (rec .ready none) * (pts sb (.cells [v].toArray 23 (0, 0)) * osl 3 1 v ([] : List Int).length (([] : List Int).map iv))) * (omap b l * (boxM mb b * (pts D (.deferred (some [])) * H)))) := by
    refine sat_ex_star.2 ⟨.slice none 0 0, ?_⟩
    have h := osl_nil h 3 1
    exact h.perm (by ac_rfl)
  refine KeysIt_spec (fun ss => ex fun v : Value => pts D1 (rec .ready none) * (pts sb (.cells [v].toArray 23 (0, 0)) * osl 3 1 v ss.length (ss.map iv))) h ?_ ?_
  · clear h
    intro ss x F w K' hlt h ht
    obtain ⟨v, h⟩ := sat_ex_star.1 h
    refine hround [.int .i64 x] w K' rfl h.has ?_
    rw [pop_cons, fin_nil]
    refine ⟨h.has, ?_⟩
    have h := (h.own D1).set (rec .busy none)
    refine ld_in (b := sb) (v := v) h rfl ?_
    refine push_sl (v := v) h rfl rfl (by omega) (by omega) fun v2 w h => ?_
    have hone : v2.oneCell' = true := by
      obtain ⟨_, _, rfl, _⟩ := osl_shape h
      rfl
    refine store_sl (b := sb) h hone (by simp) fun w h => ?_
    have h : sat E w (pts sb (.cells [v2].toArray 23 (0, 0)) * _) := h
    refine ⟨h.has, ht _ ?_⟩
    have h := (h.own D1).set (rec .ready none)
    refine sat_ex_star.2 ⟨v2, ?_⟩
    rw [List.length_append, List.map_append]
    exact h.perm (by simp only [List.map_cons, List.map_nil, List.length_singleton, iv]; ac_rfl)
  · clear h
    intro ss w hp h
    obtain ⟨v, h⟩ := sat_ex_star.1 h
    refine ⟨.ready, none, h.has, by simp, ?_⟩
    have h := (h.own D1).set (rec .exhausted none)
    simp only [jump]
    refine ld_in (b := sb) (v := v) h rfl ?_
    refine ⟨h.has, ?_⟩
    have h := (h.own D).set (.deferred none)
    refine k v ss _ hp ?_
    have h := h.perm (show _ = pts D (.deferred none) * (pts D1 (rec .exhausted none) * (pts sb (.cells [v].toArray 23 (0, 0)) * (osl 3 1 v ss.length (ss.map iv) * (omap b l * (boxM mb b * H))))) by ac_rfl)
    exact h.drop.drop.drop
theorem Sort_spec {v : Value} {zs : List Int} (h : sat E w (osl 3 1 v zs.length (zs.map iv) * R)) (hl : zs.length ≤ 1000000)
    (k : ∀ w', sat E w' (osl 3 1 v zs.length ((zs.mergeSort fun x y => decide (x ≤ y)).map iv) * R) → K (.tuple #[]) w') : Calls prog 76 #[v] w (Ret K) :=
  sort_sl (P := prog) (f := 76) (fun blk off cap zs w hH hb hz => AnyM.slices_Sort_int sortL blk off cap zs w hH hb hz) (fun p cap w => AnyM.slices_Sort_int_none sortL p cap w) h hl k
/-- The keys of a map, rising. -/
theorem SortedKeys_spec {b : Nat} {l : List (Int × Value)} (hl : l.length ≤ 1000000) (h : sat E w (omap b l * H))
    (k : ∀ (u : Value) (ss : List Int) w', ss.Perm (l.map (·.1)) → ss.Pairwise (· ≤ ·) → sat E w' (osl 3 1 u ss.length (ss.map iv) * (omap b l * H)) → K u w') :
    Calls prog 66 #[.map (some b)] w (Ret fun t w => Calls prog 65 #[t] w (Ret K)) := by
  refine c66 ?_
  unfold B66
  refine box_sl h fun mb w h => ?_
  have h : sat E w (boxM mb b * (omap b l * H)) := h
  refine pvv_of (v := .func (.func 77) #[] #[.pointer (some ⟨mb, 0, none⟩)]) (fun _ => rfl) ?_
  refine c65 ?_
  unfold B65
  refine c75 ?_
  unfold B75
  refine AppendSeq_spec (H := H) hl (h.perm (star_left_comm _ _ _)) fun u ss w hp h => ?_
  have hsl : ss.length ≤ 1000000 := by
    have := hp.length_eq
    simp only [List.length_map] at this
    omega
  refine Sort_spec h hsl fun w h => ?_
  have hpm := List.mergeSort_perm ss fun x y => decide (x ≤ y)
  refine k u (ss.mergeSort fun x y => decide (x ≤ y)) w (hpm.trans hp) ?_ ?_
  · have := List.pairwise_mergeSort (le := fun x y : Int => decide (x ≤ y)) (by intro a b c; simp; omega) (by intro a b; simp; omega) ss
    exact this.imp (by intro a b h; simpa using h)
  · rw [List.length_mergeSort]
    have h := h.perm (show _ = boxM mb b * (osl 3 1 u ss.length ((ss.mergeSort fun x y => decide (x ≤ y)).map iv) * (omap b l * H)) by ac_rfl)
    exact h.drop
theorem sorted_unique : ∀ {a b : List Int}, a.Perm b → a.Pairwise (· ≤ ·) → b.Pairwise (· < ·) → a = b := by
  intro a b hp ha hb
  exact hp.eq_of_pairwise (fun x y _ _ h1 h2 => by omega) ha (hb.imp (by intro x y h; omega))
end Go.Proofs.YtbcimkjgpplcpaaGreatDoor.KT

/-
  Tokens that a function takes. Printed by mkallk.py out of TokC.
-/
set_option linter.all false
set_option maxRecDepth 100000
namespace Go.Proofs.YtbcimkjgpplcpaaGreatDoor.T
open Go Hold
variable {E : World0} {w : World} {H R X : HP} {K : Value → World → Prop}
theorem allK_spec {b : Nat} {l : List Tok} {n : Int} {f : Value} {pr : Tok → Bool} (hr : Rise Tok.id l) (hl : l.length ≤ 1000000) (h : sat E w (omap b (kmp l) * H))
    (hf : ∀ (x : Tok) (X : HP) (w : World) (K' : Value → World → Prop), x ∈ l → sat E w (X * (omap b (kmp l) * H)) → (∀ w', sat E w' (X * (omap b (kmp l) * H)) → K' (.bool (pr x)) w') → ef prog (oCall f #[kv x]) w K')
    (k : ∀ u w', sat E w' (osl 49 4 u (l.filter pr).length (kvs (l.filter pr)) * (omap b (kmp l) * H)) → K u w') : Calls prog 39 #[.agg #[.int .i64 n, .map (some b)], f] w (Ret K) := by
  refine c39 ?_
  unfold B39
  refine box_sl h fun rb w h => ?_
  have h : sat E w (pts rb (.cells [Value.int .i64 n, .map (some b)].toArray 65 (0, 0)) * (omap b (kmp l) * H)) := h
  simp only [↓o_nil, ↓o_field, ↓o_add, ↓o_sub, ↓o_mul, ↓o_lss, ↓o_leq, ↓o_gtr, ↓o_geq, ↓o_not, ↓o_pick, ↓o_eqInt, ↓o_neInt, ↓o_eqBool, ↓o_neBool, ↓o_eqPtr, ↓o_nePtr, ↓o_eqPtr', ↓o_eqSl, ↓o_neSl, ↓o_eqStr, ↓o_neStr, ↓o_len, ↓o_lenS, ↓o_min, ↓o_max, ↓o_extract, ↓o_convInt, ↓cd_true, ↓cd_false, ↓gate_tt, ↓gate_ff, ↓gate_tf, ↓gate_ft, ↓gate_undef, ↓o_bind, ↓stay_v, ↓pop_cons, ↓fin_nil, Option.isNone_none, Option.isNone_some, Bool.not_true, Bool.not_false, Nat.zero_add, decide_true, decide_false, if_true, if_false, Bool.false_eq_true, ↓reduceIte]
  refine ld_in (b := rb) (v := .map (some b)) h rfl ?_
  refine KT.SortedKeys_spec (l := kmp l) (by rw [mpG_length]; omega) (h.perm (show _ = omap b (kmp l) * (pts rb (.cells [Value.int .i64 n, .map (some b)].toArray 65 (0, 0)) * H) by ac_rfl)) fun u ss w hp hs h => ?_
  have hss : ss = l.map (·.id) := by
    refine KT.sorted_unique (by rw [← mpG_keys (val := kv)]; exact hp) hs ?_
    rw [List.pairwise_map]
    exact hr
  subst hss
  rw [List.length_map] at h
  have h : sat E w (osl 3 1 u l.length ((l.map (·.id)).map iv) * (pts rb (.cells [Value.int .i64 n, .map (some b)].toArray 65 (0, 0)) * (omap b (kmp l) * H))) := h.perm (by ac_rfl)
  obtain ⟨ua, uc, rfl, huc, _, hpos⟩ := osl_shape h
  rw [o_len]
  refine lp_nat (fun q σ w => ∃ (i : Nat) (out : Value), σ = [out, .int .i64 (i : Int)] ∧ q = l.length - i ∧ i ≤ l.length ∧
      sat E w (osl 49 4 out ((l.take i).filter pr).length (kvs ((l.take i).filter pr)) * (osl 3 1 (.slice ua l.length uc) l.length ((l.map (·.id)).map iv) * (pts rb (.cells [Value.int .i64 n, .map (some b)].toArray 65 (0, 0)) * (omap b (kmp l) * H))))) l.length
    ⟨0, _, rfl, by omega, by omega, by simpa [kvs] using osl_nil h 49 4⟩ ?_
  clear h
  rintro q σ w again ⟨i, out, rfl, rfl, hi, h⟩ hag
  have hlf : ((l.take i).filter pr).length ≤ i := Nat.le_trans (List.length_filter_le _ _) (by simp; omega)
  rw [pop_cons, pop_cons, fin_nil, o_lss]
  refine cd_dec (fun hlt => ?_) (fun hge => ?_)
  · have hi1 : i < l.length := by omega
    have hx : l[i]? = some l[i] := List.getElem?_eq_getElem hi1
    have hmem : l[i] ∈ l := List.getElem_mem hi1
    have htk : l.take (i + 1) = l.take i ++ [l[i]] := List.take_succ_eq_append_getElem hi1
    generalize l[i] = x at hx hmem htk
    have hlook : lookM (kmp l) x.id = some (kv x) := by rw [lookM_mpG, findG_at hr hx]; rfl
    obtain ⟨ub, hub⟩ := hpos (by omega)
    subst hub
    refine jn_cut (fun σ w => ∃ out', σ = [out'] ∧ sat E w (osl 49 4 out' ((l.take (i + 1)).filter pr).length (kvs ((l.take (i + 1)).filter pr)) * (osl 3 1 (.slice (some ⟨ub, 0, none⟩) l.length uc) l.length ((l.map (·.id)).map iv) * (pts rb (.cells [Value.int .i64 n, .map (some b)].toArray 65 (0, 0)) * (omap b (kmp l) * H))))) (fun kj hkj => ?_) ?_
    · rw [o_index (by omega) (by omega)]
      have hrd : Rds (osl 49 4 out ((l.take i).filter pr).length (kvs ((l.take i).filter pr)) * (osl 3 1 (.slice (some ⟨ub, 0, none⟩) l.length uc) l.length ((l.map (·.id)).map iv) * (pts rb (.cells [Value.int .i64 n, .map (some b)].toArray 65 (0, 0)) * (omap b (kmp l) * H)))) (.slice (some ⟨ub, 0, none⟩) l.length uc) l.length ((l.map (·.id)).map iv) := Rds.osl.left.right
      refine ld_rd h hrd i (by simp) (v := .int .i64 x.id) (by rw [List.getElem?_map, List.getElem?_map, hx]; rfl) ?_
      try simp only [↓o_nil, ↓o_field, ↓o_add, ↓o_sub, ↓o_mul, ↓o_lss, ↓o_leq, ↓o_gtr, ↓o_geq, ↓o_not, ↓o_pick, ↓o_eqInt, ↓o_neInt, ↓o_eqBool, ↓o_neBool, ↓o_eqPtr, ↓o_nePtr, ↓o_eqPtr', ↓o_eqSl, ↓o_neSl, ↓o_eqStr, ↓o_neStr, ↓o_len, ↓o_lenS, ↓o_min, ↓o_max, ↓o_extract, ↓o_convInt, ↓cd_true, ↓cd_false, ↓gate_tt, ↓gate_ff, ↓gate_tf, ↓gate_ft, ↓gate_undef, ↓o_bind, ↓stay_v, ↓pop_cons, ↓fin_nil, Option.isNone_none, Option.isNone_some, Bool.not_true, Bool.not_false, Nat.zero_add, decide_true, decide_false, if_true, if_false, Bool.false_eq_true, ↓reduceIte]
      refine ld_in (b := rb) (v := .map (some b)) h rfl ?_
      refine look1_ld (b := b) h ?_
      rw [hlook, Option.getD_some]
      rw [← star_assoc, ← star_assoc] at h
      refine hf x _ w _ hmem h fun w h => ?_
      rw [star_assoc, star_assoc] at h
      by_cases hpx : pr x = true
      · rw [hpx, cd_true]
        try simp only [↓o_nil, ↓o_field, ↓o_add, ↓o_sub, ↓o_mul, ↓o_lss, ↓o_leq, ↓o_gtr, ↓o_geq, ↓o_not, ↓o_pick, ↓o_eqInt, ↓o_neInt, ↓o_eqBool, ↓o_neBool, ↓o_eqPtr, ↓o_nePtr, ↓o_eqPtr', ↓o_eqSl, ↓o_neSl, ↓o_eqStr, ↓o_neStr, ↓o_len, ↓o_lenS, ↓o_min, ↓o_max, ↓o_extract, ↓o_convInt, ↓cd_true, ↓cd_false, ↓gate_tt, ↓gate_ff, ↓gate_tf, ↓gate_ft, ↓gate_undef, ↓o_bind, ↓stay_v, ↓pop_cons, ↓fin_nil, Option.isNone_none, Option.isNone_some, Bool.not_true, Bool.not_false, Nat.zero_add, decide_true, decide_false, if_true, if_false, Bool.false_eq_true, ↓reduceIte]
        refine ld_in (b := rb) (v := .map (some b)) h rfl ?_
        refine look1_ld (b := b) h ?_
        rw [hlook, Option.getD_some]
        refine buildSlice_sl (e := 49) (cs := (kcells x).toArray) h (fun w => by kernel_rfl) fun b5 w h => ?_
        refine append_sl (v := out) h (kcells x) (k' := 1) rfl (.inr ⟨b5, 0, _, _, _, rfl, h.pts_get, fun j v hj => by simpa using hj⟩) (kcells_one x) (by omega) (by omega) fun v' w h => ?_
        refine hkj _ _ ⟨v', rfl, ?_⟩
        have h := h.lose b5
        have e9 : (l.take (i + 1)).filter pr = (l.take i).filter pr ++ [x] := by rw [htk, List.filter_append]; simp [hpx]
        rw [e9, kvs_append, List.length_append]
        simpa [kvs] using h
      · have hpx : pr x = false := by simpa using hpx
        rw [hpx, cd_false]
        refine hkj _ _ ⟨out, rfl, ?_⟩
        have e9 : (l.take (i + 1)).filter pr = (l.take i).filter pr := by rw [htk, List.filter_append]; simp [hpx]
        rw [e9]
        exact h
    · clear h
      rintro σ w ⟨out', rfl, h⟩
      rw [pop_cons, fin_nil, o_add, i64_of (by omega) (by omega)]
      exact hag (l.length - (i + 1)) _ _ (by omega) ⟨i + 1, out', rfl, rfl, by omega, h⟩
  · have hi2 : i = l.length := by omega
    subst hi2
    rw [List.take_length] at h
    refine k out w ?_
    have h := h.perm (show _ = osl 3 1 (.slice ua l.length uc) l.length ((l.map (·.id)).map iv) * (pts rb (.cells [Value.int .i64 n, .map (some b)].toArray 65 (0, 0)) * (osl 49 4 out (l.filter pr).length (kvs (l.filter pr)) * (omap b (kmp l) * H))) by ac_rfl)
    exact h.drop.drop
end Go.Proofs.YtbcimkjgpplcpaaGreatDoor.T

/-
  Families dropped: who is left. No program in sight.
-/
set_option linter.all false
set_option maxRecDepth 100000
namespace Go.Proofs.YtbcimkjgpplcpaaGreatDoor.T
open Go Hold
theorem dropAll_f : ∀ (l : List Fam) {s : St} {f : Fam}, f ∈ (dropAll s l).f ↔ f ∈ s.f ∧ f.id ∉ l.map Fam.id
  | [], s, f => by simp [dropAll]
  | x :: l, s, f => by
    have ih := dropAll_f l (s := dropS s x.id) (f := f)
    have e : dropAll s (x :: l) = dropAll (dropS s x.id) l := rfl
    rw [e, ih]
    have : f ∈ (dropS s x.id).f ↔ f ∈ s.f ∧ f.id ≠ x.id := by unfold dropS dropG; simp
    rw [this, List.map_cons, List.mem_cons, not_or, and_assoc]
theorem dropAll_k : ∀ (l : List Fam) {s : St} {y : Tok}, y ∈ (dropAll s l).k ↔ y ∈ s.k ∧ y.fam ∉ l.map Fam.id
  | [], s, y => by simp [dropAll]
  | x :: l, s, y => by
    have ih := dropAll_k l (s := dropS s x.id) (y := y)
    have e : dropAll s (x :: l) = dropAll (dropS s x.id) l := rfl
    rw [e, ih]
    have : y ∈ (dropS s x.id).k ↔ y ∈ s.k ∧ y.fam ≠ x.id := by unfold dropS; simp
    rw [this, List.map_cons, List.mem_cons, not_or, and_assoc]
theorem dropAll_n : ∀ (l : List Fam) {s : St}, (dropAll s l).noted = s.noted ∧ (dropAll s l).fn = s.fn ∧ (dropAll s l).kn = s.kn
  | [], s => ⟨rfl, rfl, rfl⟩
  | x :: l, s => dropAll_n l (s := dropS s x.id)
end Go.Proofs.YtbcimkjgpplcpaaGreatDoor.T

/-
  The reference's store, as far as that it answers: what its lists hold plays no part here.
-/
set_option linter.all false
set_option maxRecDepth 100000
namespace Go.Proofs.YtbcimkjgpplcpaaGreatDoor.T
open Go Hold
variable {E : World0} {w : World} {H R X : HP} {K : Value → World → Prop}
theorem cd_any {b : Bool} {A B : Prop} (h1 : A) (h2 : B) : cd (.bool b) A B := ⟨fun _ => h1, fun _ => h2⟩
structure Rs where
  fam : Int
  tok : Int
  noted : Int
  f : List Fam
  t : List Tok
structure Few (s : Rs) (m : Nat) : Prop where
  f : s.f.length ≤ m
  t : s.t.length ≤ m
theorem Few.up {s : Rs} {m : Nat} (h : Few s m) : Few s (m + 1) := ⟨by have := h.f; omega, by have := h.t; omega⟩
def rcells (s : Rs) (vf vt : Value) : List Value := [.int .i64 s.fam, .int .i64 s.tok, .int .i64 s.noted, vf, vt]
abbrev rI (q : Nat) (s : Rs) (vf vt : Value) (R : HP) : HP := pts q (.cells (rcells s vf vt).toArray 69 (0, 0)) * (pers (immS vf s.f.length (fvs s.f)) * (pers (immS vt s.t.length (kvs s.t)) * R))
theorem rI_in {q : Nat} {s : Rs} {vf vt : Value} (h : sat E w (X * rI q s vf vt R)) : sat E w (rI q s vf vt (X * R)) := by
  unfold rI at h ⊢
  exact h.perm (by ac_rfl)
theorem rI_out {q : Nat} {s : Rs} {vf vt : Value} (h : sat E w (rI q s vf vt (X * R))) : sat E w (X * rI q s vf vt R) := by
  unfold rI at h ⊢
  exact h.perm (by ac_rfl)
theorem rds_f {q : Nat} {s : Rs} {vf vt : Value} {R : HP} : Rds (rI q s vf vt R) vf s.f.length (fvs s.f) := Rds.pers.left.right
theorem rds_t {q : Nat} {s : Rs} {vf vt : Value} {R : HP} : Rds (rI q s vf vt R) vt s.t.length (kvs s.t) := Rds.pers.left.right.right
def newR : Rs := ⟨1, 1, 0, [], []⟩
theorem few_new : Few newR 0 := ⟨by simp [newR], by simp [newR]⟩
theorem RNew_spec (h : sat E w R) (k : ∀ q vf vt w', sat E w' (rI q newR vf vt R) → K (.pointer (some ⟨q, 0, none⟩)) w') : Calls prog 7 #[] w (Ret K) := by
  refine c7 ?_
  unfold B7
  refine pvv_of (v := .agg (rcells newR (.slice none 0 0) (.slice none 0 0)).toArray) (fun w => by kernel_rfl) ?_
  refine box_sl h fun q w h => k q (.slice none 0 0) (.slice none 0 0) w ?_
  have h : sat E w (pts q (.cells (rcells newR (.slice none 0 0) (.slice none 0 0)).toArray 69 (0, 0)) * R) := h
  have h := osl_freeze (osl_nil h 35 5)
  have h := osl_freeze (osl_nil h 49 4)
  unfold rI
  exact h.perm (by rw [show newR.f.length = 0 from rfl, show newR.t.length = 0 from rfl, show fvs newR.f = [] from rfl, show kvs newR.t = [] from rfl]; ac_rfl)
theorem Rtime_spec {q : Nat} {s : Rs} {vf vt : Value} {now : Int} (h : sat E w H) [Has H q (.cells (rcells s vf vt).toArray 69 (0, 0))] (k : ∀ e, K (.int .i64 e) w) : Calls prog 59 #[.pointer (some ⟨q, 0, none⟩), .int .i64 now] w (Ret K) := by
  refine c59 ?_
  unfold B59
  simp only [↓o_eqPtr, Option.isNone_some, ↓cd_false]
  rw [o_lss]
  by_cases h1 : now < 0
  · simp only [h1, ↓o_nil, ↓o_field, ↓o_add, ↓o_sub, ↓o_mul, ↓o_lss, ↓o_leq, ↓o_gtr, ↓o_geq, ↓o_not, ↓o_pick, ↓o_eqInt, ↓o_neInt, ↓o_eqBool, ↓o_neBool, ↓o_eqPtr, ↓o_nePtr, ↓o_eqPtr', ↓o_eqSl, ↓o_neSl, ↓o_eqStr, ↓o_neStr, ↓o_len, ↓o_lenS, ↓o_min, ↓o_max, ↓o_extract, ↓o_convInt, ↓cd_true, ↓cd_false, ↓gate_tt, ↓gate_ff, ↓gate_tf, ↓gate_ft, ↓gate_undef, ↓o_bind, ↓stay_v, ↓pop_cons, ↓fin_nil, Option.isNone_none, Option.isNone_some, Bool.not_true, Bool.not_false, Nat.zero_add, decide_true, decide_false, if_true, if_false, Bool.false_eq_true, ↓reduceIte]
    exact k 2
  · by_cases h2 : 1099511627776 < now
    · simp only [h1, h2, ↓o_nil, ↓o_field, ↓o_add, ↓o_sub, ↓o_mul, ↓o_lss, ↓o_leq, ↓o_gtr, ↓o_geq, ↓o_not, ↓o_pick, ↓o_eqInt, ↓o_neInt, ↓o_eqBool, ↓o_neBool, ↓o_eqPtr, ↓o_nePtr, ↓o_eqPtr', ↓o_eqSl, ↓o_neSl, ↓o_eqStr, ↓o_neStr, ↓o_len, ↓o_lenS, ↓o_min, ↓o_max, ↓o_extract, ↓o_convInt, ↓cd_true, ↓cd_false, ↓gate_tt, ↓gate_ff, ↓gate_tf, ↓gate_ft, ↓gate_undef, ↓o_bind, ↓stay_v, ↓pop_cons, ↓fin_nil, Option.isNone_none, Option.isNone_some, Bool.not_true, Bool.not_false, Nat.zero_add, decide_true, decide_false, if_true, if_false, Bool.false_eq_true, ↓reduceIte]
      exact k 2
    · simp only [h1, h2, ↓o_nil, ↓o_field, ↓o_add, ↓o_sub, ↓o_mul, ↓o_lss, ↓o_leq, ↓o_gtr, ↓o_geq, ↓o_not, ↓o_pick, ↓o_eqInt, ↓o_neInt, ↓o_eqBool, ↓o_neBool, ↓o_eqPtr, ↓o_nePtr, ↓o_eqPtr', ↓o_eqSl, ↓o_neSl, ↓o_eqStr, ↓o_neStr, ↓o_len, ↓o_lenS, ↓o_min, ↓o_max, ↓o_extract, ↓o_convInt, ↓cd_true, ↓cd_false, ↓gate_tt, ↓gate_ff, ↓gate_tf, ↓gate_ft, ↓gate_undef, ↓o_bind, ↓stay_v, ↓pop_cons, ↓fin_nil, Option.isNone_none, Option.isNone_some, Bool.not_true, Bool.not_false, Nat.zero_add, decide_true, decide_false, if_true, if_false, Bool.false_eq_true, ↓reduceIte]
      refine ld_in (b := q) (v := .int .i64 s.noted) h rfl ?_
      rw [o_lss]
      exact cd_any (k 9) (k 0)
theorem Rfind_spec {q : Nat} {s : Rs} {vf vt : Value} {id : Int} {m : Nat} (fw : Few s m) (hm : m ≤ 1000000) (h : sat E w (rI q s vf vt R))
    (k0 : ∀ e, e ≠ 0 → K (.tuple #[.int .i64 (-1), .int .i64 e]) w) (k1 : ∀ i : Nat, i < s.f.length → K (.tuple #[.int .i64 (i : Int), .int .i64 0]) w) : Calls prog 60 #[.pointer (some ⟨q, 0, none⟩), .int .i64 id] w (Ret K) := by
  have := fw.f
  obtain ⟨va, vc, rfl, hvc, hv, _⟩ := (rds_f (s := s)).shape h
  refine c60 ?_
  unfold B60
  have go : lp (fun σ w again_9 => pop σ fun i_8 σ => fin σ <|
    pv prog (oNil (.pointer (some ⟨q, 0, none⟩))) w fun t_10 w =>
    pvv prog (Instr.fieldAt 69 t_10 3) w fun t_11 w =>
    ldv prog (Instr.loadAt 43 t_11) w fun t_12 w =>
    pv prog (oBi .len #[43] 3 #[false] #[t_12]) w fun t_13 w =>
    pvv prog (binOp .lss 3 i_8 t_13) w fun t_14 w =>
    cd t_14 (
      pv prog (oNil (.pointer (some ⟨q, 0, none⟩))) w fun t_15 w =>
      pvv prog (Instr.fieldAt 69 t_15 3) w fun t_16 w =>
      ldv prog (Instr.loadAt 43 t_16) w fun t_17 w =>
      pvv prog (Instr.indexAt 43 t_17 i_8) w fun t_18 w =>
      pvv prog (Instr.fieldAt 35 t_18 0) w fun t_19 w =>
      ldv prog (Instr.loadAt 3 t_19) w fun t_20 w =>
      pvv prog (oEq .eql 3 (.tmp 33) (.tmp 34) t_20 (.int .i64 id)) w fun t_21 w =>
      cd t_21 (
        K (.tuple #[i_8, (.int .i64 0)]) w) <|
      pvv prog (binOp .add 3 i_8 (.int .i64 1)) w fun t_22 w =>
      again_9 [t_22] w) <|
    K (.tuple #[(.int .i64 (-1)), (.int .i64 12)]) w) [(.int .i64 0)] w := by
    refine lp_nat (fun r σ w' => ∃ i : Nat, σ = [.int .i64 (i : Int)] ∧ r = s.f.length - i ∧ i ≤ s.f.length ∧ w' = w) s.f.length ⟨0, rfl, rfl, by omega, rfl⟩ ?_
    rintro r σ w' again ⟨i, rfl, rfl, hi, rfl⟩ hag
    rw [pop_cons, fin_nil]
    simp only [↓o_nil, ↓o_field, ↓o_add, ↓o_sub, ↓o_mul, ↓o_lss, ↓o_leq, ↓o_gtr, ↓o_geq, ↓o_not, ↓o_pick, ↓o_eqInt, ↓o_neInt, ↓o_eqBool, ↓o_neBool, ↓o_eqPtr, ↓o_nePtr, ↓o_eqPtr', ↓o_eqSl, ↓o_neSl, ↓o_eqStr, ↓o_neStr, ↓o_len, ↓o_lenS, ↓o_min, ↓o_max, ↓o_extract, ↓o_convInt, ↓cd_true, ↓cd_false, ↓gate_tt, ↓gate_ff, ↓gate_tf, ↓gate_ft, ↓gate_undef, ↓o_bind, ↓stay_v, ↓pop_cons, ↓fin_nil, Option.isNone_none, Option.isNone_some, Bool.not_true, Bool.not_false, Nat.zero_add, decide_true, decide_false, if_true, if_false, Bool.false_eq_true, ↓reduceIte]
    refine ld_in (b := q) (v := .slice va s.f.length vc) h rfl ?_
    try simp only [↓o_nil, ↓o_field, ↓o_add, ↓o_sub, ↓o_mul, ↓o_lss, ↓o_leq, ↓o_gtr, ↓o_geq, ↓o_not, ↓o_pick, ↓o_eqInt, ↓o_neInt, ↓o_eqBool, ↓o_neBool, ↓o_eqPtr, ↓o_nePtr, ↓o_eqPtr', ↓o_eqSl, ↓o_neSl, ↓o_eqStr, ↓o_neStr, ↓o_len, ↓o_lenS, ↓o_min, ↓o_max, ↓o_extract, ↓o_convInt, ↓cd_true, ↓cd_false, ↓gate_tt, ↓gate_ff, ↓gate_tf, ↓gate_ft, ↓gate_undef, ↓o_bind, ↓stay_v, ↓pop_cons, ↓fin_nil, Option.isNone_none, Option.isNone_some, Bool.not_true, Bool.not_false, Nat.zero_add, decide_true, decide_false, if_true, if_false, Bool.false_eq_true, ↓reduceIte]
    refine cd_dec (fun hlt => ?_) (fun hge => k0 12 (by decide))
    have hi1 : i < s.f.length := by omega
    have hx : s.f[i]? = some s.f[i] := List.getElem?_eq_getElem hi1
    generalize s.f[i] = x at hx
    obtain ⟨b', o, c', e, hc', hrd⟩ := hv.opened h (by rw [fvs_length]; omega)
    cases e
    refine ld_in (b := q) (v := .slice (some ⟨b', o, none⟩) s.f.length vc) h rfl ?_
    rw [o_index (by omega) (by omega), o_field]
    refine ld_rd h hrd (i * 5 + 0) (by rw [Int.toNat_natCast]; omega) (take_cell (fvs_at hx) rfl) ?_
    rw [o_eqInt]
    refine cd_any (k1 i hi1) ?_
    try rw [o_add]
    rw [i64_of (by omega) (by omega)]
    exact hag (s.f.length - (i + 1)) _ _ (by omega) ⟨i + 1, rfl, rfl, by omega, rfl⟩
  rw [o_lss]
  by_cases h1 : id < 1
  · simp only [h1, ↓o_nil, ↓o_field, ↓o_add, ↓o_sub, ↓o_mul, ↓o_lss, ↓o_leq, ↓o_gtr, ↓o_geq, ↓o_not, ↓o_pick, ↓o_eqInt, ↓o_neInt, ↓o_eqBool, ↓o_neBool, ↓o_eqPtr, ↓o_nePtr, ↓o_eqPtr', ↓o_eqSl, ↓o_neSl, ↓o_eqStr, ↓o_neStr, ↓o_len, ↓o_lenS, ↓o_min, ↓o_max, ↓o_extract, ↓o_convInt, ↓cd_true, ↓cd_false, ↓gate_tt, ↓gate_ff, ↓gate_tf, ↓gate_ft, ↓gate_undef, ↓o_bind, ↓stay_v, ↓pop_cons, ↓fin_nil, Option.isNone_none, Option.isNone_some, Bool.not_true, Bool.not_false, Nat.zero_add, decide_true, decide_false, if_true, if_false, Bool.false_eq_true, ↓reduceIte]
    exact k0 4 (by decide)
  · try simp only [↓o_nil, ↓o_field, ↓o_add, ↓o_sub, ↓o_mul, ↓o_lss, ↓o_leq, ↓o_gtr, ↓o_geq, ↓o_not, ↓o_pick, ↓o_eqInt, ↓o_neInt, ↓o_eqBool, ↓o_neBool, ↓o_eqPtr, ↓o_nePtr, ↓o_eqPtr', ↓o_eqSl, ↓o_neSl, ↓o_eqStr, ↓o_neStr, ↓o_len, ↓o_lenS, ↓o_min, ↓o_max, ↓o_extract, ↓o_convInt, ↓cd_true, ↓cd_false, ↓gate_tt, ↓gate_ff, ↓gate_tf, ↓gate_ft, ↓gate_undef, ↓o_bind, ↓stay_v, ↓pop_cons, ↓fin_nil, Option.isNone_none, Option.isNone_some, Bool.not_true, Bool.not_false, Nat.zero_add, decide_true, decide_false, if_true, if_false, Bool.false_eq_true, ↓reduceIte] at go
    simp only [h1, ↓o_nil, ↓o_field, ↓o_add, ↓o_sub, ↓o_mul, ↓o_lss, ↓o_leq, ↓o_gtr, ↓o_geq, ↓o_not, ↓o_pick, ↓o_eqInt, ↓o_neInt, ↓o_eqBool, ↓o_neBool, ↓o_eqPtr, ↓o_nePtr, ↓o_eqPtr', ↓o_eqSl, ↓o_neSl, ↓o_eqStr, ↓o_neStr, ↓o_len, ↓o_lenS, ↓o_min, ↓o_max, ↓o_extract, ↓o_convInt, ↓cd_true, ↓cd_false, ↓gate_tt, ↓gate_ff, ↓gate_tf, ↓gate_ft, ↓gate_undef, ↓o_bind, ↓stay_v, ↓pop_cons, ↓fin_nil, Option.isNone_none, Option.isNone_some, Bool.not_true, Bool.not_false, Nat.zero_add, decide_true, decide_false, if_true, if_false, Bool.false_eq_true, ↓reduceIte]
    refine ld_in (b := q) (v := .int .i64 s.fam) h rfl ?_
    try simp only [↓o_nil, ↓o_field, ↓o_add, ↓o_sub, ↓o_mul, ↓o_lss, ↓o_leq, ↓o_gtr, ↓o_geq, ↓o_not, ↓o_pick, ↓o_eqInt, ↓o_neInt, ↓o_eqBool, ↓o_neBool, ↓o_eqPtr, ↓o_nePtr, ↓o_eqPtr', ↓o_eqSl, ↓o_neSl, ↓o_eqStr, ↓o_neStr, ↓o_len, ↓o_lenS, ↓o_min, ↓o_max, ↓o_extract, ↓o_convInt, ↓cd_true, ↓cd_false, ↓gate_tt, ↓gate_ff, ↓gate_tf, ↓gate_ft, ↓gate_undef, ↓o_bind, ↓stay_v, ↓pop_cons, ↓fin_nil, Option.isNone_none, Option.isNone_some, Bool.not_true, Bool.not_false, Nat.zero_add, decide_true, decide_false, if_true, if_false, Bool.false_eq_true, ↓reduceIte]
    exact cd_any (k0 4 (by decide)) go
theorem RFams_spec {q : Nat} {s : Rs} {vf vt : Value} {n : Int} {m : Nat} (fw : Few s m) (hm : m ≤ 1000000) (h : sat E w (rI q s vf vt R))
    (k : ∀ u (l : List Fam) w', l.length ≤ m → sat E w' (osl 35 5 u l.length (fvs l) * rI q s vf vt R) → K u w') : Calls prog 57 #[.pointer (some ⟨q, 0, none⟩), .int .i64 n] w (Ret K) := by
  have := fw.f
  obtain ⟨va, vc, rfl, hvc, hv, _⟩ := (rds_f (s := s)).shape h
  refine c57 ?_
  unfold B57
  refine lp_nat (fun r σ w => ∃ (i : Nat) (out : Value) (l : List Fam), σ = [out, .int .i64 (i : Int)] ∧ r = s.f.length - i ∧ i ≤ s.f.length ∧ l.length ≤ i ∧
      sat E w (osl 35 5 out l.length (fvs l) * rI q s (.slice va s.f.length vc) vt R)) s.f.length ⟨0, _, [], rfl, by omega, by omega, by simp, osl_nil h 35 5⟩ ?_
  clear h
  rintro r σ w again ⟨i, out, l, rfl, rfl, hi, hl, h⟩ hag
  rw [pop_cons, pop_cons, fin_nil]
  simp only [↓o_nePtr, Option.isNone_some, ↓o_nil, ↓o_field, ↓o_add, ↓o_sub, ↓o_mul, ↓o_lss, ↓o_leq, ↓o_gtr, ↓o_geq, ↓o_not, ↓o_pick, ↓o_eqInt, ↓o_neInt, ↓o_eqBool, ↓o_neBool, ↓o_eqPtr, ↓o_nePtr, ↓o_eqPtr', ↓o_eqSl, ↓o_neSl, ↓o_eqStr, ↓o_neStr, ↓o_len, ↓o_lenS, ↓o_min, ↓o_max, ↓o_extract, ↓o_convInt, ↓cd_true, ↓cd_false, ↓gate_tt, ↓gate_ff, ↓gate_tf, ↓gate_ft, ↓gate_undef, ↓o_bind, ↓stay_v, ↓pop_cons, ↓fin_nil, Option.isNone_none, Option.isNone_some, Bool.not_true, Bool.not_false, Nat.zero_add, decide_true, decide_false, if_true, if_false, Bool.false_eq_true, ↓reduceIte]
  refine ld_in (b := q) (v := .slice va s.f.length vc) h rfl ?_
  try simp only [↓o_nil, ↓o_field, ↓o_add, ↓o_sub, ↓o_mul, ↓o_lss, ↓o_leq, ↓o_gtr, ↓o_geq, ↓o_not, ↓o_pick, ↓o_eqInt, ↓o_neInt, ↓o_eqBool, ↓o_neBool, ↓o_eqPtr, ↓o_nePtr, ↓o_eqPtr', ↓o_eqSl, ↓o_neSl, ↓o_eqStr, ↓o_neStr, ↓o_len, ↓o_lenS, ↓o_min, ↓o_max, ↓o_extract, ↓o_convInt, ↓cd_true, ↓cd_false, ↓gate_tt, ↓gate_ff, ↓gate_tf, ↓gate_ft, ↓gate_undef, ↓o_bind, ↓stay_v, ↓pop_cons, ↓fin_nil, Option.isNone_none, Option.isNone_some, Bool.not_true, Bool.not_false, Nat.zero_add, decide_true, decide_false, if_true, if_false, Bool.false_eq_true, ↓reduceIte]
  refine cd_dec (fun hlt => ?_) (fun hge => k out l w (by omega) h)
  have hi1 : i < s.f.length := by omega
  have hx : s.f[i]? = some s.f[i] := List.getElem?_eq_getElem hi1
  generalize s.f[i] = x at hx
  obtain ⟨b', o, c', e, hc', hrd⟩ := hv.opened h.drop (by rw [fvs_length]; omega)
  cases e
  refine jn_cut (fun σ w => ∃ out' l', σ = [out'] ∧ l'.length ≤ i + 1 ∧ sat E w (osl 35 5 out' l'.length (fvs l') * rI q s (.slice (some ⟨b', o, none⟩) s.f.length vc) vt R)) (fun kj hkj => ?_) ?_
  · refine ld_in (b := q) (v := .slice (some ⟨b', o, none⟩) s.f.length vc) h rfl ?_
    rw [o_index (by omega) (by omega), o_field]
    refine ld_rd h hrd.right (i * 5 + 1) (by rw [Int.toNat_natCast]; omega) (take_cell (fvs_at hx) rfl) ?_
    rw [o_eqInt]
    refine cd_any ?_ (hkj _ _ ⟨out, l, rfl, by omega, h⟩)
    refine ld_in (b := q) (v := .slice (some ⟨b', o, none⟩) s.f.length vc) h rfl ?_
    rw [o_index (by omega) (by omega)]
    refine ld_el h hrd.right (i * 5) (by simp) (fcells x) rfl (fvs_at hx) ?_
    refine buildSlice_sl (e := 35) (cs := (fcells x).toArray) h (fun w => by kernel_rfl) fun b5 w h => ?_
    refine append_sl (v := out) h (fcells x) (k' := 1) rfl (.inr ⟨b5, 0, _, _, _, rfl, h.pts_get, fun j v hj => by simpa using hj⟩) (fcells_one x) (by omega) (by omega) fun v' w h => ?_
    refine hkj _ _ ⟨v', l ++ [x], rfl, by simp; omega, ?_⟩
    have h := h.lose b5
    rw [fvs_append, List.length_append]
    simpa [fvs] using h
  · clear h
    rintro σ w ⟨out', l', rfl, hl', h⟩
    rw [pop_cons, fin_nil]
    try rw [o_add]
    rw [i64_of (by omega) (by omega)]
    exact hag (s.f.length - (i + 1)) _ _ (by omega) ⟨i + 1, out', l', rfl, rfl, by omega, hl', h⟩
/-- append(nil, l..), of a list that stays: a copy. -/
theorem fvs_one (l : List Fam) : ∀ v ∈ fvs l, v.oneCell' = true := by
  intro v hv
  obtain ⟨x, _, hx⟩ := List.mem_flatMap.1 hv
  exact fcells_one x v hx
theorem kvs_one (l : List Tok) : ∀ v ∈ kvs l, v.oneCell' = true := by
  intro v hv
  obtain ⟨x, _, hx⟩ := List.mem_flatMap.1 hv
  exact kcells_one x v hx
theorem copyF {l : List Fam} {vf : Value} (hl : l.length ≤ 1000000) (h : sat E w H) (hv : Rds H vf l.length (fvs l))
    (k : ∀ u w', sat E w' (osl 35 5 u l.length (fvs l) * H) → K u w') : ef prog (oBi .append #[43, 43] 43 #[false, false] #[.slice none 0 0, vf]) w K := by
  obtain ⟨va, vc, rfl, hvc, hv, _⟩ := hv.shape h
  refine append_sl (osl_nil h 35 5) (fvs l) (fvs_length _) (hv.win h) (fvs_one _) (by omega) (by omega) fun v2 w h => k v2 w ?_
  rw [Nat.zero_add, List.nil_append] at h
  exact h
theorem copyK {l : List Tok} {vt : Value} (hl : l.length ≤ 1000000) (h : sat E w H) (hv : Rds H vt l.length (kvs l))
    (k : ∀ u w', sat E w' (osl 49 4 u l.length (kvs l) * H) → K u w') : ef prog (oBi .append #[41, 41] 41 #[false, false] #[.slice none 0 0, vt]) w K := by
  obtain ⟨va, vc, rfl, hvc, hv, _⟩ := hv.shape h
  refine append_sl (osl_nil h 49 4) (kvs l) (kvs_length _) (hv.win h) (kvs_one _) (by omega) (by omega) fun v2 w h => k v2 w ?_
  rw [Nat.zero_add, List.nil_append] at h
  exact h
/-- The reference's lists may change as they please. -/
theorem rI_mk {q : Nat} {s : Rs} {vf vt : Value} (h : sat E w (pts q (.cells (rcells s vf vt).toArray 69 (0, 0)) * (osl 35 5 vf s.f.length (fvs s.f) * (pers (immS vt s.t.length (kvs s.t)) * R)))) : sat E w (rI q s vf vt R) := by
  rw [star_left_comm] at h
  have h := osl_freeze h
  rw [star_left_comm] at h
  exact h
theorem rI_mk2 {q : Nat} {s : Rs} {vf vt : Value} (h : sat E w (pts q (.cells (rcells s vf vt).toArray 69 (0, 0)) * (pers (immS vf s.f.length (fvs s.f)) * (osl 49 4 vt s.t.length (kvs s.t) * R)))) : sat E w (rI q s vf vt R) := by
  have h := h.perm (show _ = osl 49 4 vt s.t.length (kvs s.t) * (pts q (.cells (rcells s vf vt).toArray 69 (0, 0)) * (pers (immS vf s.f.length (fvs s.f)) * R)) by ac_rfl)
  have h := osl_freeze h
  unfold rI
  exact h.perm (by ac_rfl)
theorem Rfresh_spec {q : Nat} {s : Rs} {vf vt : Value} {fam til : Int} {sc : UInt8} {m : Nat} (fw : Few s m) (hm : m ≤ 900000) (h : sat E w (rI q s vf vt R))
    (k : ∀ x s' vf' vt' w', Few s' (m + 1) → sat E w' (rI q s' vf' vt' R) → K (kv x) w') : Calls prog 58 #[.pointer (some ⟨q, 0, none⟩), .int .i64 fam, bv sc, .int .i64 til] w (Ret K) := by
  have := fw.t
  refine c58 ?_
  unfold B58
  refine tok_new h fun r w h => ?_
  refine jn_cut (fun σ w => ∃ til' : Int, σ = [.int .i64 til'] ∧ sat E w (pts r (.cells (kcells zeroK).toArray 49 (0, 0)) * rI q s vf vt R)) (fun kj hkj => ?_) ?_
  · rw [o_gtr]
    exact cd_any (hkj _ _ ⟨_, rfl, h⟩) (hkj _ _ ⟨_, rfl, h⟩)
  clear h
  rintro σ w ⟨til', rfl, h⟩
  rw [pop_cons, fin_nil]
  simp only [↓o_nil, ↓o_field, ↓o_add, ↓o_sub, ↓o_mul, ↓o_lss, ↓o_leq, ↓o_gtr, ↓o_geq, ↓o_not, ↓o_pick, ↓o_eqInt, ↓o_neInt, ↓o_eqBool, ↓o_neBool, ↓o_eqPtr, ↓o_nePtr, ↓o_eqPtr', ↓o_eqSl, ↓o_neSl, ↓o_eqStr, ↓o_neStr, ↓o_len, ↓o_lenS, ↓o_min, ↓o_max, ↓o_extract, ↓o_convInt, ↓cd_true, ↓cd_false, ↓gate_tt, ↓gate_ff, ↓gate_tf, ↓gate_ft, ↓gate_undef, ↓o_bind, ↓stay_v, ↓pop_cons, ↓fin_nil, Option.isNone_none, Option.isNone_some, Bool.not_true, Bool.not_false, Nat.zero_add, decide_true, decide_false, if_true, if_false, Bool.false_eq_true, ↓reduceIte]
  refine ld_in (b := q) (v := .int .i64 s.tok) h rfl ?_
  refine pvv_of (v := kv ⟨s.tok, fam, sc, til'⟩) (fun w => by kernel_rfl) ?_
  refine tok_in h fun xb w h => ?_
  try simp only [↓o_nil, ↓o_field, ↓o_add, ↓o_sub, ↓o_mul, ↓o_lss, ↓o_leq, ↓o_gtr, ↓o_geq, ↓o_not, ↓o_pick, ↓o_eqInt, ↓o_neInt, ↓o_eqBool, ↓o_neBool, ↓o_eqPtr, ↓o_nePtr, ↓o_eqPtr', ↓o_eqSl, ↓o_neSl, ↓o_eqStr, ↓o_neStr, ↓o_len, ↓o_lenS, ↓o_min, ↓o_max, ↓o_extract, ↓o_convInt, ↓cd_true, ↓cd_false, ↓gate_tt, ↓gate_ff, ↓gate_tf, ↓gate_ft, ↓gate_undef, ↓o_bind, ↓stay_v, ↓pop_cons, ↓fin_nil, Option.isNone_none, Option.isNone_some, Bool.not_true, Bool.not_false, Nat.zero_add, decide_true, decide_false, if_true, if_false, Bool.false_eq_true, ↓reduceIte]
  refine ld_in (b := q) (v := .int .i64 s.tok) h rfl ?_
  try simp only [↓o_nil, ↓o_field, ↓o_add, ↓o_sub, ↓o_mul, ↓o_lss, ↓o_leq, ↓o_gtr, ↓o_geq, ↓o_not, ↓o_pick, ↓o_eqInt, ↓o_neInt, ↓o_eqBool, ↓o_neBool, ↓o_eqPtr, ↓o_nePtr, ↓o_eqPtr', ↓o_eqSl, ↓o_neSl, ↓o_eqStr, ↓o_neStr, ↓o_len, ↓o_lenS, ↓o_min, ↓o_max, ↓o_extract, ↓o_convInt, ↓cd_true, ↓cd_false, ↓gate_tt, ↓gate_ff, ↓gate_tf, ↓gate_ft, ↓gate_undef, ↓o_bind, ↓stay_v, ↓pop_cons, ↓fin_nil, Option.isNone_none, Option.isNone_some, Bool.not_true, Bool.not_false, Nat.zero_add, decide_true, decide_false, if_true, if_false, Bool.false_eq_true, ↓reduceIte]
  refine store_sl (b := q) h rfl (by simp [rcells]) fun w h => ?_
  try simp only [↓o_nil, ↓o_field, ↓o_add, ↓o_sub, ↓o_mul, ↓o_lss, ↓o_leq, ↓o_gtr, ↓o_geq, ↓o_not, ↓o_pick, ↓o_eqInt, ↓o_neInt, ↓o_eqBool, ↓o_neBool, ↓o_eqPtr, ↓o_nePtr, ↓o_eqPtr', ↓o_eqSl, ↓o_neSl, ↓o_eqStr, ↓o_neStr, ↓o_len, ↓o_lenS, ↓o_min, ↓o_max, ↓o_extract, ↓o_convInt, ↓cd_true, ↓cd_false, ↓gate_tt, ↓gate_ff, ↓gate_tf, ↓gate_ft, ↓gate_undef, ↓o_bind, ↓stay_v, ↓pop_cons, ↓fin_nil, Option.isNone_none, Option.isNone_some, Bool.not_true, Bool.not_false, Nat.zero_add, decide_true, decide_false, if_true, if_false, Bool.false_eq_true, ↓reduceIte]
  have h : sat E w (pts q (.cells (rcells { s with tok := IntKind.i64.wrap (s.tok + 1) } vf vt).toArray 69 (0, 0)) * (pts xb (.cells (kcells ⟨s.tok, fam, sc, til'⟩).toArray 49 (0, 0)) * (pts r (.cells (kcells zeroK).toArray 49 (0, 0)) * (pers (immS vf s.f.length (fvs s.f)) * (pers (immS vt s.t.length (kvs s.t)) * R))))) := h.perm (by simp only [rcells, List.set_cons_zero, List.set_cons_succ]; try ac_rfl)
  refine ld_in (b := q) (v := vt) h rfl ?_
  refine copyK (l := s.t) (by omega) h Rds.pers.left.right.right.right.right fun u w h => ?_
  refine ld_agg (b := xb) (xs := kcells ⟨s.tok, fam, sc, til'⟩) h rfl ?_
  refine buildSlice_sl (e := 49) (cs := (kcells ⟨s.tok, fam, sc, til'⟩).toArray) h (fun w => by kernel_rfl) fun b5 w h => ?_
  refine append_sl (v := u) h (kcells ⟨s.tok, fam, sc, til'⟩) (k' := 1) rfl (.inr ⟨b5, 0, _, _, _, rfl, h.pts_get, fun j v hj => by simpa using hj⟩) (kcells_one _) (by omega) (by omega) fun v3 w h => ?_
  have h := h.lose b5
  have e9 : kvs s.t ++ kcells ⟨s.tok, fam, sc, til'⟩ = kvs (s.t ++ [⟨s.tok, fam, sc, til'⟩]) := by simp [kvs]
  rw [e9] at h
  have hone : v3.oneCell' = true := by
    obtain ⟨_, _, rfl, _⟩ := osl_shape h
    rfl
  try simp only [↓o_nil, ↓o_field, ↓o_add, ↓o_sub, ↓o_mul, ↓o_lss, ↓o_leq, ↓o_gtr, ↓o_geq, ↓o_not, ↓o_pick, ↓o_eqInt, ↓o_neInt, ↓o_eqBool, ↓o_neBool, ↓o_eqPtr, ↓o_nePtr, ↓o_eqPtr', ↓o_eqSl, ↓o_neSl, ↓o_eqStr, ↓o_neStr, ↓o_len, ↓o_lenS, ↓o_min, ↓o_max, ↓o_extract, ↓o_convInt, ↓cd_true, ↓cd_false, ↓gate_tt, ↓gate_ff, ↓gate_tf, ↓gate_ft, ↓gate_undef, ↓o_bind, ↓stay_v, ↓pop_cons, ↓fin_nil, Option.isNone_none, Option.isNone_some, Bool.not_true, Bool.not_false, Nat.zero_add, decide_true, decide_false, if_true, if_false, Bool.false_eq_true, ↓reduceIte]
  refine store_sl (b := q) h hone (by simp [rcells]) fun w h => ?_
  refine ld_agg (b := xb) (xs := kcells ⟨s.tok, fam, sc, til'⟩) h rfl ?_
  refine tok_ret1 (b := r) (x := zeroK) (y := ⟨s.tok, fam, sc, til'⟩) h fun w h => ?_
  refine k _ ⟨s.fam, IntKind.i64.wrap (s.tok + 1), s.noted, s.f, s.t ++ [⟨s.tok, fam, sc, til'⟩]⟩ vf v3 w ⟨by have := fw.f; simp only; omega, by simp; omega⟩ (rI_mk2 ?_)
  have h := h.perm (show _ = pts r (.cells (kcells ⟨s.tok, fam, sc, til'⟩).toArray 49 (0, 0)) * (pts xb (.cells (kcells ⟨s.tok, fam, sc, til'⟩).toArray 49 (0, 0)) * (pers (immS vt s.t.length (kvs s.t)) * (pts q (.cells (rcells ⟨s.fam, IntKind.i64.wrap (s.tok + 1), s.noted, s.f, s.t ++ [⟨s.tok, fam, sc, til'⟩]⟩ vf v3).toArray 69 (0, 0)) * (pers (immS vf s.f.length (fvs s.f)) * (osl 49 4 v3 (s.t.length + 1) (kvs (s.t ++ [⟨s.tok, fam, sc, til'⟩])) * R))))) by
    simp only [rcells, List.set_cons_zero, List.set_cons_succ]
    ac_rfl)
  have h := h.drop.drop.drop
  rw [List.length_append, List.length_singleton]
  exact h
theorem Rdrop_spec {q : Nat} {s : Rs} {vf vt : Value} {id : Int} {m : Nat} (fw : Few s m) (hm : m ≤ 900000) (h : sat E w (rI q s vf vt R))
    (k : ∀ s' vf' vt' w', Few s' m → sat E w' (rI q s' vf' vt' (pers (immS vf s.f.length (fvs s.f)) * R)) → K (.tuple #[]) w') : Calls prog 61 #[.pointer (some ⟨q, 0, none⟩), .int .i64 id] w (Ret K) := by
  have hf := fw.f
  have ht := fw.t
  obtain ⟨va, vc, rfl, hvc, hv, _⟩ := (rds_f (s := s)).shape h
  obtain ⟨ua, uc, rfl, huc, hu, _⟩ := (rds_t (s := s)).shape h
  refine c61 ?_
  unfold B61
  refine lp_nat (fun r σ w => ∃ (i : Nat) (out : Value) (l : List Fam), σ = [out, .int .i64 (i : Int)] ∧ r = s.f.length - i ∧ i ≤ s.f.length ∧ l.length ≤ i ∧
      sat E w (osl 35 5 out l.length (fvs l) * rI q s (.slice va s.f.length vc) (.slice ua s.t.length uc) R)) s.f.length ⟨0, _, [], rfl, by omega, by omega, by simp, osl_nil h 35 5⟩ ?_
  clear h
  rintro r σ w again ⟨i, out, l, rfl, rfl, hi, hl, h⟩ hag
  rw [pop_cons, pop_cons, fin_nil]
  simp only [↓o_nil, ↓o_field, ↓o_add, ↓o_sub, ↓o_mul, ↓o_lss, ↓o_leq, ↓o_gtr, ↓o_geq, ↓o_not, ↓o_pick, ↓o_eqInt, ↓o_neInt, ↓o_eqBool, ↓o_neBool, ↓o_eqPtr, ↓o_nePtr, ↓o_eqPtr', ↓o_eqSl, ↓o_neSl, ↓o_eqStr, ↓o_neStr, ↓o_len, ↓o_lenS, ↓o_min, ↓o_max, ↓o_extract, ↓o_convInt, ↓cd_true, ↓cd_false, ↓gate_tt, ↓gate_ff, ↓gate_tf, ↓gate_ft, ↓gate_undef, ↓o_bind, ↓stay_v, ↓pop_cons, ↓fin_nil, Option.isNone_none, Option.isNone_some, Bool.not_true, Bool.not_false, Nat.zero_add, decide_true, decide_false, if_true, if_false, Bool.false_eq_true, ↓reduceIte]
  refine ld_in (b := q) (v := .slice va s.f.length vc) h rfl ?_
  try simp only [↓o_nil, ↓o_field, ↓o_add, ↓o_sub, ↓o_mul, ↓o_lss, ↓o_leq, ↓o_gtr, ↓o_geq, ↓o_not, ↓o_pick, ↓o_eqInt, ↓o_neInt, ↓o_eqBool, ↓o_neBool, ↓o_eqPtr, ↓o_nePtr, ↓o_eqPtr', ↓o_eqSl, ↓o_neSl, ↓o_eqStr, ↓o_neStr, ↓o_len, ↓o_lenS, ↓o_min, ↓o_max, ↓o_extract, ↓o_convInt, ↓cd_true, ↓cd_false, ↓gate_tt, ↓gate_ff, ↓gate_tf, ↓gate_ft, ↓gate_undef, ↓o_bind, ↓stay_v, ↓pop_cons, ↓fin_nil, Option.isNone_none, Option.isNone_some, Bool.not_true, Bool.not_false, Nat.zero_add, decide_true, decide_false, if_true, if_false, Bool.false_eq_true, ↓reduceIte]
  refine cd_dec (fun hlt => ?_) (fun hge => ?_)
  · have hi1 : i < s.f.length := by omega
    have hx : s.f[i]? = some s.f[i] := List.getElem?_eq_getElem hi1
    generalize s.f[i] = x at hx
    obtain ⟨b', o, c', e, hc', hrd⟩ := hv.opened h.drop (by rw [fvs_length]; omega)
    cases e
    refine jn_cut (fun σ w => ∃ out' l', σ = [out'] ∧ l'.length ≤ i + 1 ∧ sat E w (osl 35 5 out' l'.length (fvs l') * rI q s (.slice (some ⟨b', o, none⟩) s.f.length vc) (.slice ua s.t.length uc) R)) (fun kj hkj => ?_) ?_
    · refine ld_in (b := q) (v := .slice (some ⟨b', o, none⟩) s.f.length vc) h rfl ?_
      rw [o_index (by omega) (by omega), o_field]
      refine ld_rd h hrd.right (i * 5 + 0) (by rw [Int.toNat_natCast]; omega) (take_cell (fvs_at hx) rfl) ?_
      rw [o_neInt]
      refine cd_any ?_ (hkj _ _ ⟨out, l, rfl, by omega, h⟩)
      refine ld_in (b := q) (v := .slice (some ⟨b', o, none⟩) s.f.length vc) h rfl ?_
      rw [o_index (by omega) (by omega)]
      refine ld_el h hrd.right (i * 5) (by simp) (fcells x) rfl (fvs_at hx) ?_
      refine buildSlice_sl (e := 35) (cs := (fcells x).toArray) h (fun w => by kernel_rfl) fun b5 w h => ?_
      refine append_sl (v := out) h (fcells x) (k' := 1) rfl (.inr ⟨b5, 0, _, _, _, rfl, h.pts_get, fun j v hj => by simpa using hj⟩) (fcells_one x) (by omega) (by omega) fun v' w h => ?_
      refine hkj _ _ ⟨v', l ++ [x], rfl, by simp; omega, ?_⟩
      have h := h.lose b5
      rw [fvs_append, List.length_append]
      simpa [fvs] using h
    · clear h
      rintro σ w ⟨out', l', rfl, hl', h⟩
      rw [pop_cons, fin_nil]
      try rw [o_add]
      rw [i64_of (by omega) (by omega)]
      exact hag (s.f.length - (i + 1)) _ _ (by omega) ⟨i + 1, out', l', rfl, rfl, by omega, hl', h⟩
  clear hag
  refine lp_nat (fun r σ w => ∃ (i : Nat) (out2 : Value) (l2 : List Tok), σ = [out2, .int .i64 (i : Int)] ∧ r = s.t.length - i ∧ i ≤ s.t.length ∧ l2.length ≤ i ∧
      sat E w (osl 49 4 out2 l2.length (kvs l2) * (osl 35 5 out l.length (fvs l) * rI q s (.slice va s.f.length vc) (.slice ua s.t.length uc) R))) s.t.length ⟨0, _, [], rfl, by omega, by omega, by simp, osl_nil h 49 4⟩ ?_
  clear h
  rintro r σ w again ⟨j, out2, l2, rfl, rfl, hj, hl2, h⟩ hag
  rw [pop_cons, pop_cons, fin_nil]
  refine ld_in (b := q) (v := .slice ua s.t.length uc) h rfl ?_
  try simp only [↓o_nil, ↓o_field, ↓o_add, ↓o_sub, ↓o_mul, ↓o_lss, ↓o_leq, ↓o_gtr, ↓o_geq, ↓o_not, ↓o_pick, ↓o_eqInt, ↓o_neInt, ↓o_eqBool, ↓o_neBool, ↓o_eqPtr, ↓o_nePtr, ↓o_eqPtr', ↓o_eqSl, ↓o_neSl, ↓o_eqStr, ↓o_neStr, ↓o_len, ↓o_lenS, ↓o_min, ↓o_max, ↓o_extract, ↓o_convInt, ↓cd_true, ↓cd_false, ↓gate_tt, ↓gate_ff, ↓gate_tf, ↓gate_ft, ↓gate_undef, ↓o_bind, ↓stay_v, ↓pop_cons, ↓fin_nil, Option.isNone_none, Option.isNone_some, Bool.not_true, Bool.not_false, Nat.zero_add, decide_true, decide_false, if_true, if_false, Bool.false_eq_true, ↓reduceIte]
  refine cd_dec (fun hlt => ?_) (fun hge => ?_)
  · have hi1 : j < s.t.length := by omega
    have hx : s.t[j]? = some s.t[j] := List.getElem?_eq_getElem hi1
    generalize s.t[j] = x at hx
    obtain ⟨b', o, c', e, hc', hrd⟩ := hu.opened h.drop.drop (by rw [kvs_length]; omega)
    cases e
    refine jn_cut (fun σ w => ∃ out' l', σ = [out'] ∧ l'.length ≤ j + 1 ∧ sat E w (osl 49 4 out' l'.length (kvs l') * (osl 35 5 out l.length (fvs l) * rI q s (.slice va s.f.length vc) (.slice (some ⟨b', o, none⟩) s.t.length uc) R))) (fun kj hkj => ?_) ?_
    · refine ld_in (b := q) (v := .slice (some ⟨b', o, none⟩) s.t.length uc) h rfl ?_
      rw [o_index (by omega) (by omega), o_field]
      refine ld_rd h hrd.right.right (j * 4 + 1) (by rw [Int.toNat_natCast]; omega) (take_cell (kvs_at hx) rfl) ?_
      rw [o_neInt]
      refine cd_any ?_ (hkj _ _ ⟨out2, l2, rfl, by omega, h⟩)
      refine ld_in (b := q) (v := .slice (some ⟨b', o, none⟩) s.t.length uc) h rfl ?_
      rw [o_index (by omega) (by omega)]
      refine ld_el h hrd.right.right (j * 4) (by simp) (kcells x) rfl (kvs_at hx) ?_
      refine buildSlice_sl (e := 49) (cs := (kcells x).toArray) h (fun w => by kernel_rfl) fun b5 w h => ?_
      refine append_sl (v := out2) h (kcells x) (k' := 1) rfl (.inr ⟨b5, 0, _, _, _, rfl, h.pts_get, fun j v hj => by simpa using hj⟩) (kcells_one x) (by omega) (by omega) fun v' w h => ?_
      refine hkj _ _ ⟨v', l2 ++ [x], rfl, by simp; omega, ?_⟩
      have h := h.lose b5
      rw [kvs_append, List.length_append]
      simpa [kvs] using h
    · clear h
      rintro σ w ⟨out', l', rfl, hl', h⟩
      rw [pop_cons, fin_nil]
      try rw [o_add]
      rw [i64_of (by omega) (by omega)]
      exact hag (s.t.length - (j + 1)) _ _ (by omega) ⟨j + 1, out', l', rfl, rfl, by omega, hl', h⟩
  · have hone2 : out2.oneCell' = true := by
      obtain ⟨_, _, rfl, _⟩ := osl_shape h
      rfl
    have hone : out.oneCell' = true := by
      obtain ⟨_, _, rfl, _⟩ := osl_shape (h.perm (star_left_comm _ _ _))
      rfl
    refine store_sl (b := q) h hone (by simp [rcells]) fun w h => ?_
    try simp only [↓o_nil, ↓o_field, ↓o_add, ↓o_sub, ↓o_mul, ↓o_lss, ↓o_leq, ↓o_gtr, ↓o_geq, ↓o_not, ↓o_pick, ↓o_eqInt, ↓o_neInt, ↓o_eqBool, ↓o_neBool, ↓o_eqPtr, ↓o_nePtr, ↓o_eqPtr', ↓o_eqSl, ↓o_neSl, ↓o_eqStr, ↓o_neStr, ↓o_len, ↓o_lenS, ↓o_min, ↓o_max, ↓o_extract, ↓o_convInt, ↓cd_true, ↓cd_false, ↓gate_tt, ↓gate_ff, ↓gate_tf, ↓gate_ft, ↓gate_undef, ↓o_bind, ↓stay_v, ↓pop_cons, ↓fin_nil, Option.isNone_none, Option.isNone_some, Bool.not_true, Bool.not_false, Nat.zero_add, decide_true, decide_false, if_true, if_false, Bool.false_eq_true, ↓reduceIte]
    refine store_sl (b := q) h hone2 (by simp [rcells]) fun w h => ?_
    refine k ⟨s.fam, s.tok, s.noted, l, l2⟩ out out2 w ⟨by simp only; omega, by simp only; omega⟩ ?_
    have h := h.perm (show _ = osl 49 4 out2 l2.length (kvs l2) * (osl 35 5 out l.length (fvs l) * (pers (immS (.slice ua s.t.length uc) s.t.length (kvs s.t)) * (pts q (.cells (rcells ⟨s.fam, s.tok, s.noted, l, l2⟩ out out2).toArray 69 (0, 0)) * (pers (immS (.slice va s.f.length vc) s.f.length (fvs s.f)) * R)))) by
      simp only [rcells, List.set_cons_zero, List.set_cons_succ]
      ac_rfl)
    have h := osl_freeze h
    have h := h.perm (star_left_comm _ _ _)
    have h := osl_freeze h
    have h := h.perm (show _ = pers (immS (.slice ua s.t.length uc) s.t.length (kvs s.t)) * rI q ⟨s.fam, s.tok, s.noted, l, l2⟩ out out2 (pers (immS (.slice va s.f.length vc) s.f.length (fvs s.f)) * R) by unfold rI; ac_rfl)
    exact h.drop
end Go.Proofs.YtbcimkjgpplcpaaGreatDoor.T

/-
  Names, as the reference reads them.
-/
set_option linter.all false
set_option maxRecDepth 100000
namespace Go.Proofs.YtbcimkjgpplcpaaGreatDoor
open Go Hold
variable {E : World0} {w : World} {H R : HP} {K : Value → World → Prop}
theorem name_byte : ∀ n, n < 256 → (UInt8.ofNat n ∈ nameSet ↔ (97 ≤ n ∧ n ≤ 122) ∨ (48 ≤ n ∧ n ≤ 57) ∨ n = 45) := by decide +kernel
theorem RIsName_spec (h : sat E w H) {l : List UInt8} (hl : l.length ≤ 9223372036854775807) (k : ∀ w', sat E w' H → K (.bool (isName l)) w') : Calls prog 56 #[tv l] w (Ret K) := by
  refine c56 ?_
  unfold B56
  refine lp_nat (fun q σ w => ∃ i : Nat, σ = [.int .i64 (i : Int)] ∧ q = l.length - i ∧ i ≤ l.length ∧ (∀ c ∈ l.take i, c ∈ nameSet) ∧ sat E w H) l.length ⟨0, rfl, rfl, by omega, by simp, h⟩ ?_
  clear h
  rintro q σ w again ⟨i, rfl, rfl, hi, hs, h⟩ hag
  rw [pop_cons, fin_nil, o_lenT, o_lss]
  refine cd_dec (fun hlt => ?_) (fun hge => ?_)
  · have hi1 : i < l.length := by omega
    rw [o_indexT (by omega) (by rw [Int.toNat_natCast]; exact hi1), Int.toNat_natCast]
    have hm : l.getD i 0 ∈ l := by rw [List.getD_eq_getElem?_getD, List.getElem?_eq_getElem hi1]; exact List.getElem_mem hi1
    have ht : l.take (i + 1) = l.take i ++ [l.getD i 0] := by rw [List.take_succ_eq_append_getElem hi1, List.getD_eq_getElem?_getD, List.getElem?_eq_getElem hi1]; rfl
    generalize hc : l.getD i 0 = c at hm ht ⊢
    have hb := c.toNat_lt
    have hn := name_byte c.toNat hb
    rw [show UInt8.ofNat c.toNat = c by simp] at hn
    rw [show bv c = .int .u8 (c.toNat : Int) from rfl, o_geq]
    have fin : ∀ bb : Bool, bb = decide (c ∈ nameSet) → pvv prog (Op.unary .not (.bool bb)) w fun t_19 w =>
        cd t_19 (K (.bool false) w) <|
        pvv prog (binOp .add 3 (.int .i64 (i : Int)) (.int .i64 1)) w fun t_20 w => again [t_20] w := by
      rintro _ rfl
      rw [o_not]
      by_cases hcn : c ∈ nameSet
      · rw [decide_eq_true hcn, Bool.not_true, cd_false, o_add, i64_of (by omega) (by omega)]
        refine hag (l.length - (i + 1)) _ _ (by omega) ⟨i + 1, rfl, rfl, by omega, ?_, h⟩
        rw [ht]
        intro d hd
        rcases List.mem_append.1 hd with hd | hd
        · exact hs d hd
        · rw [List.mem_singleton.1 hd]; exact hcn
      · rw [decide_eq_false hcn, Bool.not_false, cd_true]
        have e : isName l = false := by
          unfold isName
          rw [decide_eq_false (p := ∀ c ∈ l, c ∈ nameSet) (fun h => hcn (h c hm))]
          simp
        rw [e] at k
        exact k _ h
    by_cases a1 : (97 : Int) ≤ c.toNat
    · by_cases a2 : (c.toNat : Int) ≤ 122
      · simp only [a1, a2, ↓o_nil, ↓o_field, ↓o_add, ↓o_sub, ↓o_mul, ↓o_lss, ↓o_leq, ↓o_gtr, ↓o_geq, ↓o_not, ↓o_pick, ↓o_eqInt, ↓o_neInt, ↓o_eqBool, ↓o_neBool, ↓o_eqPtr, ↓o_nePtr, ↓o_eqPtr', ↓o_eqSl, ↓o_neSl, ↓o_eqStr, ↓o_neStr, ↓o_len, ↓o_lenS, ↓o_min, ↓o_max, ↓o_extract, ↓o_convInt, ↓cd_true, ↓cd_false, ↓gate_tt, ↓gate_ff, ↓gate_tf, ↓gate_ft, ↓gate_undef, ↓o_bind, ↓stay_v, ↓pop_cons, ↓fin_nil, Option.isNone_none, Option.isNone_some, Bool.not_true, Bool.not_false, Nat.zero_add, decide_true, decide_false, if_true, if_false, Bool.false_eq_true, ↓reduceIte]
        have := fin true (by rw [decide_eq_true]; exact hn.2 (by omega))
        simp only [↓o_nil, ↓o_field, ↓o_add, ↓o_sub, ↓o_mul, ↓o_lss, ↓o_leq, ↓o_gtr, ↓o_geq, ↓o_not, ↓o_pick, ↓o_eqInt, ↓o_neInt, ↓o_eqBool, ↓o_neBool, ↓o_eqPtr, ↓o_nePtr, ↓o_eqPtr', ↓o_eqSl, ↓o_neSl, ↓o_eqStr, ↓o_neStr, ↓o_len, ↓o_lenS, ↓o_min, ↓o_max, ↓o_extract, ↓o_convInt, ↓cd_true, ↓cd_false, ↓gate_tt, ↓gate_ff, ↓gate_tf, ↓gate_ft, ↓gate_undef, ↓o_bind, ↓stay_v, ↓pop_cons, ↓fin_nil, Option.isNone_none, Option.isNone_some, Bool.not_true, Bool.not_false, Nat.zero_add, decide_true, decide_false, if_true, if_false, Bool.false_eq_true, ↓reduceIte] at this
        exact this
      · by_cases a3 : (48 : Int) ≤ c.toNat
        · have a4 : ¬ (c.toNat : Int) ≤ 57 := by omega
          have a5 : ¬ (c.toNat : Int) = 45 := by omega
          simp only [a1, a2, a3, a4, a5, ↓o_nil, ↓o_field, ↓o_add, ↓o_sub, ↓o_mul, ↓o_lss, ↓o_leq, ↓o_gtr, ↓o_geq, ↓o_not, ↓o_pick, ↓o_eqInt, ↓o_neInt, ↓o_eqBool, ↓o_neBool, ↓o_eqPtr, ↓o_nePtr, ↓o_eqPtr', ↓o_eqSl, ↓o_neSl, ↓o_eqStr, ↓o_neStr, ↓o_len, ↓o_lenS, ↓o_min, ↓o_max, ↓o_extract, ↓o_convInt, ↓cd_true, ↓cd_false, ↓gate_tt, ↓gate_ff, ↓gate_tf, ↓gate_ft, ↓gate_undef, ↓o_bind, ↓stay_v, ↓pop_cons, ↓fin_nil, Option.isNone_none, Option.isNone_some, Bool.not_true, Bool.not_false, Nat.zero_add, decide_true, decide_false, if_true, if_false, Bool.false_eq_true, ↓reduceIte]
          have := fin false (by rw [eq_comm, decide_eq_false_iff_not]; intro h; have := hn.1 h; omega)
          simp only [↓o_nil, ↓o_field, ↓o_add, ↓o_sub, ↓o_mul, ↓o_lss, ↓o_leq, ↓o_gtr, ↓o_geq, ↓o_not, ↓o_pick, ↓o_eqInt, ↓o_neInt, ↓o_eqBool, ↓o_neBool, ↓o_eqPtr, ↓o_nePtr, ↓o_eqPtr', ↓o_eqSl, ↓o_neSl, ↓o_eqStr, ↓o_neStr, ↓o_len, ↓o_lenS, ↓o_min, ↓o_max, ↓o_extract, ↓o_convInt, ↓cd_true, ↓cd_false, ↓gate_tt, ↓gate_ff, ↓gate_tf, ↓gate_ft, ↓gate_undef, ↓o_bind, ↓stay_v, ↓pop_cons, ↓fin_nil, Option.isNone_none, Option.isNone_some, Bool.not_true, Bool.not_false, Nat.zero_add, decide_true, decide_false, if_true, if_false, Bool.false_eq_true, ↓reduceIte] at this
          exact this
        · omega
    · by_cases a3 : (48 : Int) ≤ c.toNat
      · by_cases a4 : (c.toNat : Int) ≤ 57
        · simp only [a1, a3, a4, ↓o_nil, ↓o_field, ↓o_add, ↓o_sub, ↓o_mul, ↓o_lss, ↓o_leq, ↓o_gtr, ↓o_geq, ↓o_not, ↓o_pick, ↓o_eqInt, ↓o_neInt, ↓o_eqBool, ↓o_neBool, ↓o_eqPtr, ↓o_nePtr, ↓o_eqPtr', ↓o_eqSl, ↓o_neSl, ↓o_eqStr, ↓o_neStr, ↓o_len, ↓o_lenS, ↓o_min, ↓o_max, ↓o_extract, ↓o_convInt, ↓cd_true, ↓cd_false, ↓gate_tt, ↓gate_ff, ↓gate_tf, ↓gate_ft, ↓gate_undef, ↓o_bind, ↓stay_v, ↓pop_cons, ↓fin_nil, Option.isNone_none, Option.isNone_some, Bool.not_true, Bool.not_false, Nat.zero_add, decide_true, decide_false, if_true, if_false, Bool.false_eq_true, ↓reduceIte]
          have := fin true (by rw [decide_eq_true]; exact hn.2 (by omega))
          simp only [↓o_nil, ↓o_field, ↓o_add, ↓o_sub, ↓o_mul, ↓o_lss, ↓o_leq, ↓o_gtr, ↓o_geq, ↓o_not, ↓o_pick, ↓o_eqInt, ↓o_neInt, ↓o_eqBool, ↓o_neBool, ↓o_eqPtr, ↓o_nePtr, ↓o_eqPtr', ↓o_eqSl, ↓o_neSl, ↓o_eqStr, ↓o_neStr, ↓o_len, ↓o_lenS, ↓o_min, ↓o_max, ↓o_extract, ↓o_convInt, ↓cd_true, ↓cd_false, ↓gate_tt, ↓gate_ff, ↓gate_tf, ↓gate_ft, ↓gate_undef, ↓o_bind, ↓stay_v, ↓pop_cons, ↓fin_nil, Option.isNone_none, Option.isNone_some, Bool.not_true, Bool.not_false, Nat.zero_add, decide_true, decide_false, if_true, if_false, Bool.false_eq_true, ↓reduceIte] at this
          exact this
        · have a5 : ¬ (c.toNat : Int) = 45 := by omega
          simp only [a1, a3, a4, a5, ↓o_nil, ↓o_field, ↓o_add, ↓o_sub, ↓o_mul, ↓o_lss, ↓o_leq, ↓o_gtr, ↓o_geq, ↓o_not, ↓o_pick, ↓o_eqInt, ↓o_neInt, ↓o_eqBool, ↓o_neBool, ↓o_eqPtr, ↓o_nePtr, ↓o_eqPtr', ↓o_eqSl, ↓o_neSl, ↓o_eqStr, ↓o_neStr, ↓o_len, ↓o_lenS, ↓o_min, ↓o_max, ↓o_extract, ↓o_convInt, ↓cd_true, ↓cd_false, ↓gate_tt, ↓gate_ff, ↓gate_tf, ↓gate_ft, ↓gate_undef, ↓o_bind, ↓stay_v, ↓pop_cons, ↓fin_nil, Option.isNone_none, Option.isNone_some, Bool.not_true, Bool.not_false, Nat.zero_add, decide_true, decide_false, if_true, if_false, Bool.false_eq_true, ↓reduceIte]
          have := fin false (by rw [eq_comm, decide_eq_false_iff_not]; intro h; have := hn.1 h; omega)
          simp only [↓o_nil, ↓o_field, ↓o_add, ↓o_sub, ↓o_mul, ↓o_lss, ↓o_leq, ↓o_gtr, ↓o_geq, ↓o_not, ↓o_pick, ↓o_eqInt, ↓o_neInt, ↓o_eqBool, ↓o_neBool, ↓o_eqPtr, ↓o_nePtr, ↓o_eqPtr', ↓o_eqSl, ↓o_neSl, ↓o_eqStr, ↓o_neStr, ↓o_len, ↓o_lenS, ↓o_min, ↓o_max, ↓o_extract, ↓o_convInt, ↓cd_true, ↓cd_false, ↓gate_tt, ↓gate_ff, ↓gate_tf, ↓gate_ft, ↓gate_undef, ↓o_bind, ↓stay_v, ↓pop_cons, ↓fin_nil, Option.isNone_none, Option.isNone_some, Bool.not_true, Bool.not_false, Nat.zero_add, decide_true, decide_false, if_true, if_false, Bool.false_eq_true, ↓reduceIte] at this
          exact this
      · by_cases a5 : (c.toNat : Int) = 45
        · have t5 : decide ((c.toNat : Int) = 45) = true := decide_eq_true a5
          simp only [a1, a3, t5, ↓o_nil, ↓o_field, ↓o_add, ↓o_sub, ↓o_mul, ↓o_lss, ↓o_leq, ↓o_gtr, ↓o_geq, ↓o_not, ↓o_pick, ↓o_eqInt, ↓o_neInt, ↓o_eqBool, ↓o_neBool, ↓o_eqPtr, ↓o_nePtr, ↓o_eqPtr', ↓o_eqSl, ↓o_neSl, ↓o_eqStr, ↓o_neStr, ↓o_len, ↓o_lenS, ↓o_min, ↓o_max, ↓o_extract, ↓o_convInt, ↓cd_true, ↓cd_false, ↓gate_tt, ↓gate_ff, ↓gate_tf, ↓gate_ft, ↓gate_undef, ↓o_bind, ↓stay_v, ↓pop_cons, ↓fin_nil, Option.isNone_none, Option.isNone_some, Bool.not_true, Bool.not_false, Nat.zero_add, decide_true, decide_false, if_true, if_false, Bool.false_eq_true, ↓reduceIte]
          have := fin true (by rw [decide_eq_true]; exact hn.2 (by omega))
          simp only [↓o_nil, ↓o_field, ↓o_add, ↓o_sub, ↓o_mul, ↓o_lss, ↓o_leq, ↓o_gtr, ↓o_geq, ↓o_not, ↓o_pick, ↓o_eqInt, ↓o_neInt, ↓o_eqBool, ↓o_neBool, ↓o_eqPtr, ↓o_nePtr, ↓o_eqPtr', ↓o_eqSl, ↓o_neSl, ↓o_eqStr, ↓o_neStr, ↓o_len, ↓o_lenS, ↓o_min, ↓o_max, ↓o_extract, ↓o_convInt, ↓cd_true, ↓cd_false, ↓gate_tt, ↓gate_ff, ↓gate_tf, ↓gate_ft, ↓gate_undef, ↓o_bind, ↓stay_v, ↓pop_cons, ↓fin_nil, Option.isNone_none, Option.isNone_some, Bool.not_true, Bool.not_false, Nat.zero_add, decide_true, decide_false, if_true, if_false, Bool.false_eq_true, ↓reduceIte] at this
          exact this
        · simp only [a1, a3, a5, ↓o_nil, ↓o_field, ↓o_add, ↓o_sub, ↓o_mul, ↓o_lss, ↓o_leq, ↓o_gtr, ↓o_geq, ↓o_not, ↓o_pick, ↓o_eqInt, ↓o_neInt, ↓o_eqBool, ↓o_neBool, ↓o_eqPtr, ↓o_nePtr, ↓o_eqPtr', ↓o_eqSl, ↓o_neSl, ↓o_eqStr, ↓o_neStr, ↓o_len, ↓o_lenS, ↓o_min, ↓o_max, ↓o_extract, ↓o_convInt, ↓cd_true, ↓cd_false, ↓gate_tt, ↓gate_ff, ↓gate_tf, ↓gate_ft, ↓gate_undef, ↓o_bind, ↓stay_v, ↓pop_cons, ↓fin_nil, Option.isNone_none, Option.isNone_some, Bool.not_true, Bool.not_false, Nat.zero_add, decide_true, decide_false, if_true, if_false, Bool.false_eq_true, ↓reduceIte]
          have := fin false (by rw [eq_comm, decide_eq_false_iff_not]; intro h; have := hn.1 h; omega)
          simp only [↓o_nil, ↓o_field, ↓o_add, ↓o_sub, ↓o_mul, ↓o_lss, ↓o_leq, ↓o_gtr, ↓o_geq, ↓o_not, ↓o_pick, ↓o_eqInt, ↓o_neInt, ↓o_eqBool, ↓o_neBool, ↓o_eqPtr, ↓o_nePtr, ↓o_eqPtr', ↓o_eqSl, ↓o_neSl, ↓o_eqStr, ↓o_neStr, ↓o_len, ↓o_lenS, ↓o_min, ↓o_max, ↓o_extract, ↓o_convInt, ↓cd_true, ↓cd_false, ↓gate_tt, ↓gate_ff, ↓gate_tf, ↓gate_ft, ↓gate_undef, ↓o_bind, ↓stay_v, ↓pop_cons, ↓fin_nil, Option.isNone_none, Option.isNone_some, Bool.not_true, Bool.not_false, Nat.zero_add, decide_true, decide_false, if_true, if_false, Bool.false_eq_true, ↓reduceIte] at this
          exact this
  · have hi2 : i = l.length := by omega
    subst hi2
    rw [List.take_length] at hs
    rw [o_lenT, o_geq]
    have e : isName l = (decide ((1 : Int) ≤ l.length) && decide ((l.length : Int) ≤ 9)) := by
      unfold isName
      rw [decide_eq_true (p := ∀ c ∈ l, c ∈ nameSet) hs, Bool.and_true]
      congr 1
      · rw [decide_eq_decide, ← List.length_pos_iff]; omega
      · rw [decide_eq_decide]; omega
    rw [e] at k
    by_cases b1 : (1 : Int) ≤ l.length
    · simp only [b1, ↓o_lenT, ↓o_nil, ↓o_field, ↓o_add, ↓o_sub, ↓o_mul, ↓o_lss, ↓o_leq, ↓o_gtr, ↓o_geq, ↓o_not, ↓o_pick, ↓o_eqInt, ↓o_neInt, ↓o_eqBool, ↓o_neBool, ↓o_eqPtr, ↓o_nePtr, ↓o_eqPtr', ↓o_eqSl, ↓o_neSl, ↓o_eqStr, ↓o_neStr, ↓o_len, ↓o_lenS, ↓o_min, ↓o_max, ↓o_extract, ↓o_convInt, ↓cd_true, ↓cd_false, ↓gate_tt, ↓gate_ff, ↓gate_tf, ↓gate_ft, ↓gate_undef, ↓o_bind, ↓stay_v, ↓pop_cons, ↓fin_nil, Option.isNone_none, Option.isNone_some, Bool.not_true, Bool.not_false, Nat.zero_add, decide_true, decide_false, if_true, if_false, Bool.false_eq_true, ↓reduceIte]
      simp only [b1, decide_true, Bool.true_and] at k
      exact k _ h
    · simp only [b1, ↓o_nil, ↓o_field, ↓o_add, ↓o_sub, ↓o_mul, ↓o_lss, ↓o_leq, ↓o_gtr, ↓o_geq, ↓o_not, ↓o_pick, ↓o_eqInt, ↓o_neInt, ↓o_eqBool, ↓o_neBool, ↓o_eqPtr, ↓o_nePtr, ↓o_eqPtr', ↓o_eqSl, ↓o_neSl, ↓o_eqStr, ↓o_neStr, ↓o_len, ↓o_lenS, ↓o_min, ↓o_max, ↓o_extract, ↓o_convInt, ↓cd_true, ↓cd_false, ↓gate_tt, ↓gate_ff, ↓gate_tf, ↓gate_ft, ↓gate_undef, ↓o_bind, ↓stay_v, ↓pop_cons, ↓fin_nil, Option.isNone_none, Option.isNone_some, Bool.not_true, Bool.not_false, Nat.zero_add, decide_true, decide_false, if_true, if_false, Bool.false_eq_true, ↓reduceIte]
      simp only [b1, decide_false, Bool.false_and] at k
      exact k _ h
end Go.Proofs.YtbcimkjgpplcpaaGreatDoor
