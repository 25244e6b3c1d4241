/-
  A builder; hashes in digits; what must be whatever is asked.
-/
import Derived.Test.YtjmgkfpjaelilaaDoorHshO
import Derived.Test.YtjmgkfpjaelilaaDoorBld
set_option linter.all false
set_option maxRecDepth 10000
namespace Go.Proofs.YtjmgkfpjaelilaaDoor
open Go Hold
variable {E : World0} {w : World} {H R : HP} {K : Value → World → Prop}
theorem WriteByte_spec (h : sat E w H) {b : Nat} {l : List UInt8} {c : UInt8} [s : Split H (bld b l) R] (hl : l.length + 1 ≤ 140737488355328) (k : ∀ w', sat E w' (bld b (l ++ [c]) * R) → K .nilIface w') : Calls prog 18 #[.pointer (some ⟨b, 0, none⟩), bv c] w (Ret K) := by
  obtain ⟨p, v, hp, h⟩ := sat_bld.1 (h.split (bld b l))
  refine c18 ?_
  unfold B18
  refine copyCheck_spec hp h fun w h => ?_
  try simp only [↓o_nil, ↓o_field, ↓o_add, ↓o_sub, ↓o_mul, ↓o_lss, ↓o_leq, ↓o_gtr, ↓o_geq, ↓o_not, ↓o_pick, ↓o_eqInt, ↓o_neInt, ↓o_eqBool, ↓o_neBool, ↓o_eqPtr, ↓o_nePtr, ↓o_eqPtr', ↓o_eqSl, ↓o_neSl, ↓o_eqStr, ↓o_neStr, ↓o_len, ↓o_lenS, ↓o_min, ↓o_max, ↓o_extract, ↓o_convInt, ↓cd_true, ↓cd_false, ↓gate_tt, ↓gate_ff, ↓gate_tf, ↓gate_ft, ↓gate_undef, ↓o_bind, ↓stay_v, ↓pop_cons, ↓fin_nil, Option.isNone_none, Option.isNone_some, Bool.not_true, Bool.not_false, Nat.zero_add, decide_true, decide_false, if_true, if_false, Bool.false_eq_true, ↓reduceIte]
  refine ld_at h ?_
  refine push_sl (v := v) h rfl rfl (by omega) (by omega) fun v2 w h => ?_
  try simp only [↓o_nil, ↓o_field, ↓o_add, ↓o_sub, ↓o_mul, ↓o_lss, ↓o_leq, ↓o_gtr, ↓o_geq, ↓o_not, ↓o_pick, ↓o_eqInt, ↓o_neInt, ↓o_eqBool, ↓o_neBool, ↓o_eqPtr, ↓o_nePtr, ↓o_eqPtr', ↓o_eqSl, ↓o_neSl, ↓o_eqStr, ↓o_neStr, ↓o_len, ↓o_lenS, ↓o_min, ↓o_max, ↓o_extract, ↓o_convInt, ↓cd_true, ↓cd_false, ↓gate_tt, ↓gate_ff, ↓gate_tf, ↓gate_ft, ↓gate_undef, ↓o_bind, ↓stay_v, ↓pop_cons, ↓fin_nil, Option.isNone_none, Option.isNone_some, Bool.not_true, Bool.not_false, Nat.zero_add, decide_true, decide_false, if_true, if_false, Bool.false_eq_true, ↓reduceIte]
  have h := h.own b
  refine store_at (b := b) h ?_ (by simp) fun w h => ?_
  · obtain ⟨a, c, rfl, _, _, _⟩ := osl_shape (h.perm (star_comm _ _) |>.perm (star_assoc _ _ _))
    rfl
  · refine k _ (sat_bld.2 ⟨_, v2, .inr rfl, ?_⟩)
    have e : l.map bv ++ [bv c] = (l ++ [c]).map bv := by simp
    rw [e] at h
    simpa using h
def digs : List UInt8 := [48, 49, 50, 51, 52, 53, 54, 55, 56, 57, 97, 98, 99, 100, 101, 102]
def dig (n : Nat) : UInt8 := digs.getD n 0
def hex2 (x : UInt8) : List UInt8 := [dig (x.toNat / 16), dig (x.toNat % 16)]
def hex (l : List UInt8) : List UInt8 := l.flatMap hex2
theorem hex_length : ∀ l : List UInt8, (hex l).length = 2 * l.length
  | [] => rfl
  | x :: l => by
    have := hex_length l
    simp only [hex, List.flatMap_cons, List.length_append] at this ⊢
    simp only [hex2, List.length_cons, List.length_nil]
    omega
theorem hex_take {l : List UInt8} {i : Nat} (h : i < l.length) : hex (l.take (i + 1)) = hex (l.take i) ++ hex2 (l.getD i 0) := by
  rw [take_get h]; simp [hex]
theorem o_shr4 {P : Program} {t : TypeId} {x : UInt8} {k : IntKind} {K : Value → World → Prop} : pvv P (binOp .shr t (bv x) (.int k 4)) w K = K (.int .u8 ((x.toNat / 16 : Nat) : Int)) w := by
  have := o_shr (P := P) (w := w) (K := K) (t := t) (k := .u8) (k' := k) (a := x.toNat) (n := 4) (by decide)
  exact this
theorem o_and15 {P : Program} {t : TypeId} {x : UInt8} {K : Value → World → Prop} : pvv P (binOp .and t (bv x) (.int .u8 15)) w K = K (.int .u8 ((x.toNat % 16 : Nat) : Int)) w := by
  rw [show Value.int .u8 15 = bv 15 from rfl, o_andB]
  unfold bv
  congr 3
  rw [UInt8.toNat_and]
  exact Nat.and_two_pow_sub_one_eq_mod x.toNat 4
theorem o_dig {n : Nat} (hn : n < 16) {K : Value → World → Prop} : pvv prog (Instr.index 9 (.string ⟨#[48, 49, 50, 51, 52, 53, 54, 55, 56, 57, 97, 98, 99, 100, 101, 102]⟩) (.int .u8 (n : Int))) w K = K (bv (dig n)) w := by
  have := o_indexT (P := prog) (w := w) (K := K) (t := 9) (l := digs) (k := .u8) (x := (n : Int)) (by omega) (by show n < 16; exact hn)
  exact this
theorem Hex_spec (h : sat E w H) {l : List UInt8} (hl : l.length = 32) (k : ∀ w', sat E w' H → K (tv (hex l)) w') : Calls prog 14 #[.agg (l.map bv).toArray] w (Ret K) := by
  refine c14 ?_
  unfold B14
  refine box_sl h fun b1 w h => ?_
  have h : sat E w (pts b1 (.cells (l.map bv).toArray 23 (0, 0)) * H) := h
  refine alloc_sl h fun b w h => ?_
  have h : sat E w (bld b [] * (pts b1 (.cells (l.map bv).toArray 23 (0, 0)) * H)) := sat_bld.2 ⟨none, .slice none 0 0, .inl rfl, (osl_nil h 5 1).perm (star_left_comm _ _ _)⟩
  refine ld_agg (b := b1) h (by simpa using hl) ?_
  refine lp_nat (fun q σ w => ∃ i : Nat, σ = [.int .i64 i] ∧ q = 32 - i ∧ i ≤ 32 ∧ sat E w (bld b (hex (l.take i)) * (pts b1 (.cells (l.map bv).toArray 23 (0, 0)) * H))) 32 ⟨0, rfl, rfl, by omega, h⟩ ?_
  clear h
  rintro q σ w again ⟨i, rfl, rfl, hi, h⟩ hag
  rw [pop_cons, fin_nil, o_lss]
  refine cd_dec (fun hlt => ?_) (fun hge => ?_)
  · have hlt : i < 32 := by omega
    have hx := (l.getD i 0).toNat_lt
    rw [o_indexV (by simpa using hl) (by omega) (getIdx (getbv (by omega))), o_shr4, o_dig (by omega)]
    have hlen : (hex (l.take i)).length ≤ 64 := by rw [hex_length, List.length_take]; omega
    refine WriteByte_spec (l := hex (l.take i)) h (by omega) fun w h => ?_
    rw [o_and15, o_dig (by omega)]
    refine WriteByte_spec (l := hex (l.take i) ++ [dig ((l.getD i 0).toNat / 16)]) h (by simp only [List.length_append, List.length_cons, List.length_nil]; omega) fun w h => ?_
    rw [o_add, i64_of (by omega) (by omega)]
    refine hag (32 - (i + 1)) _ _ (by omega) ⟨i + 1, rfl, rfl, by omega, ?_⟩
    rw [hex_take (by omega)]
    simpa [hex2] using h
  · have hi2 : i = 32 := by omega
    subst hi2
    rw [List.take_of_length_le (by omega)] at h
    refine String_spec (l := hex l) h (fun h0 => ?_) (by rw [hex_length]; omega) fun w h => k _ h.drop
    have := hex_length l
    rw [h0] at this
    simp at this; omega
theorem live1 : hex (sha []) = [101, 51, 98, 48, 99, 52, 52, 50, 57, 56, 102, 99, 49, 99, 49, 52, 57, 97, 102, 98, 102, 52, 99, 56, 57, 57, 54, 102, 98, 57, 50, 52, 50, 55, 97, 101, 52, 49, 101, 52, 54, 52, 57, 98, 57, 51, 52, 99, 97, 52, 57, 53, 57, 57, 49, 98, 55, 56, 53, 50, 98, 56, 53, 53] := by decide +kernel
theorem live2 : hex (sha [97, 98, 99]) = [98, 97, 55, 56, 49, 54, 98, 102, 56, 102, 48, 49, 99, 102, 101, 97, 52, 49, 52, 49, 52, 48, 100, 101, 53, 100, 97, 101, 50, 50, 50, 51, 98, 48, 48, 51, 54, 49, 97, 51, 57, 54, 49, 55, 55, 97, 57, 99, 98, 52, 49, 48, 102, 102, 54, 49, 102, 50, 48, 48, 49, 53, 97, 100] := by decide +kernel
theorem live_spec (h : sat E w H) (k : ∀ w', sat E w' H → K (.bool true) w') : Calls prog 6 #[] w (Ret K) := by
  refine c6 ?_
  unfold B6
  refine Sum_spec (b := []) h (fun E w hs => ⟨none, 0, rfl, Nat.le_refl _, .inl rfl⟩) (by decide) fun w h => ?_
  refine Hex_spec h (sha_length _) fun w h => ?_
  rw [live1]
  have e1 : ∀ (xo yo : Operand) (l : List UInt8) (K : Value → World → Prop), pvv prog (oEq .eql 9 xo yo (tv l) (.string ⟨l.toArray⟩)) w K = K (.bool true) w := fun xo yo l K => by
    have := o_eqT (P := prog) (w := w) (K := K) (t := 9) (xo := xo) (yo := yo) (a := l) (b := l)
    rw [decide_eq_true rfl] at this
    exact this
  rw [e1]
  try simp only [↓o_nil, ↓o_field, ↓o_add, ↓o_sub, ↓o_mul, ↓o_lss, ↓o_leq, ↓o_gtr, ↓o_geq, ↓o_not, ↓o_pick, ↓o_eqInt, ↓o_neInt, ↓o_eqBool, ↓o_neBool, ↓o_eqPtr, ↓o_nePtr, ↓o_eqPtr', ↓o_eqSl, ↓o_neSl, ↓o_eqStr, ↓o_neStr, ↓o_len, ↓o_lenS, ↓o_min, ↓o_max, ↓o_extract, ↓o_convInt, ↓cd_true, ↓cd_false, ↓gate_tt, ↓gate_ff, ↓gate_tf, ↓gate_ft, ↓gate_undef, ↓o_bind, ↓stay_v, ↓pop_cons, ↓fin_nil, Option.isNone_none, Option.isNone_some, Bool.not_true, Bool.not_false, Nat.zero_add, decide_true, decide_false, if_true, if_false, Bool.false_eq_true, ↓reduceIte]
  refine buildSlice_sl (e := 5) (cs := #[bv 97, bv 98, bv 99]) h (fun w => by kernel_rfl) fun b1 w h => ?_
  refine conv_const (b := b1) h fun fr w h => ?_
  refine Sum_spec (b := [97, 98, 99]) h (rds_block (b := b1) (xs := [bv 97, bv 98, bv 99]) (Nat.le_refl _)) (by decide) fun w h => ?_
  refine Hex_spec h (sha_length _) fun w h => ?_
  rw [live2]
  have e1 : ∀ (xo yo : Operand) (l : List UInt8) (K : Value → World → Prop), pvv prog (oEq .eql 9 xo yo (tv l) (.string ⟨l.toArray⟩)) w K = K (.bool true) w := fun xo yo l K => by
    have := o_eqT (P := prog) (w := w) (K := K) (t := 9) (xo := xo) (yo := yo) (a := l) (b := l)
    rw [decide_eq_true rfl] at this
    exact this
  rw [e1]
  try simp only [↓o_nil, ↓o_field, ↓o_add, ↓o_sub, ↓o_mul, ↓o_lss, ↓o_leq, ↓o_gtr, ↓o_geq, ↓o_not, ↓o_pick, ↓o_eqInt, ↓o_neInt, ↓o_eqBool, ↓o_neBool, ↓o_eqPtr, ↓o_nePtr, ↓o_eqPtr', ↓o_eqSl, ↓o_neSl, ↓o_eqStr, ↓o_neStr, ↓o_len, ↓o_lenS, ↓o_min, ↓o_max, ↓o_extract, ↓o_convInt, ↓cd_true, ↓cd_false, ↓gate_tt, ↓gate_ff, ↓gate_tf, ↓gate_ft, ↓gate_undef, ↓o_bind, ↓stay_v, ↓pop_cons, ↓fin_nil, Option.isNone_none, Option.isNone_some, Bool.not_true, Bool.not_false, Nat.zero_add, decide_true, decide_false, if_true, if_false, Bool.false_eq_true, ↓reduceIte]
  exact k _ h.drop
end Go.Proofs.YtjmgkfpjaelilaaDoor
