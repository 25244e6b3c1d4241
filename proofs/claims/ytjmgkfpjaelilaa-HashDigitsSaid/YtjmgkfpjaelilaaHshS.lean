/-
  Hashes read from digits: the code's and the reference's; digits of the reference.
-/
import Derived.Test.YtjmgkfpjaelilaaHshR
set_option linter.all false
set_option maxRecDepth 10000
namespace Go.Proofs.Ytjmgkfpjaelilaa
open Go Hold
variable {E : World0} {w : World} {H R : HP} {K : Value → World → Prop}
/-- What a digit says, or 16. -/
def val (c : UInt8) : Nat := if 48 ≤ c.toNat ∧ c.toNat ≤ 57 then c.toNat - 48 else if 97 ≤ c.toNat ∧ c.toNat ≤ 102 then c.toNat - 87 else 16
theorem val_le (c : UInt8) : val c ≤ 16 := by unfold val; split <;> (try split) <;> omega
theorem index_val : ∀ c : UInt8, Lib.indexByte digs c = if val c < 16 then (val c : Int) else -1 := by
  have key : ∀ n : Fin 256, Lib.indexByte digs (UInt8.ofNat n.val) = if val (UInt8.ofNat n.val) < 16 then (val (UInt8.ofNat n.val) : Int) else -1 := by decide +kernel
  intro c
  have := key ⟨c.toNat, c.toNat_lt⟩
  simpa using this
theorem val_dig : ∀ n, n < 16 → val (dig n) = n := by decide
def okd (s : List UInt8) : Bool := s.all fun c => decide (val c < 16)
def pair (s : List UInt8) (i : Nat) : UInt8 := UInt8.ofNat (val (s.getD (2 * i) 0) * 16 + val (s.getD (2 * i + 1) 0))
def pairs (s : List UInt8) (n : Nat) : List UInt8 := (List.range n).map (pair s)
theorem pairs_length (s : List UInt8) (n : Nat) : (pairs s n).length = n := by simp [pairs]
theorem pairs_succ (s : List UInt8) (n : Nat) : pairs s (n + 1) = pairs s n ++ [pair s n] := by simp [pairs, List.range_succ]
def unhex (s : List UInt8) : List UInt8 × Int := if s.length = 64 then if okd s = true then (pairs s 32, 0) else (zeros32, 3) else (zeros32, 3)
theorem unhex_length (s : List UInt8) : (unhex s).1.length = 32 := by
  unfold unhex; split
  · split
    · exact pairs_length _ _
    · rfl
  · rfl
theorem unhex_bad {s : List UInt8} {i : Nat} (hi : i < s.length) (h : ¬ val (s.getD i 0) < 16) : unhex s = (zeros32, 3) := by
  unfold unhex
  split
  · rw [if_neg]
    intro h1
    have := List.all_eq_true.1 h1 (s.getD i 0) (by rw [List.getD_eq_getElem?_getD, List.getElem?_eq_getElem hi]; exact List.getElem_mem hi)
    exact h (by simpa using this)
  · rfl
theorem unhex_good {s : List UInt8} (hl : s.length = 64) (h : ∀ i, i < 64 → val (s.getD i 0) < 16) : unhex s = (pairs s 32, 0) := by
  unfold unhex
  rw [if_pos hl, if_pos]
  refine List.all_eq_true.2 fun c hc => ?_
  obtain ⟨i, hi, rfl⟩ := List.getElem_of_mem hc
  have := h i (by omega)
  rw [List.getD_eq_getElem?_getD, List.getElem?_eq_getElem hi] at this
  simpa using this
theorem IndexByte_spec {c : UInt8} (k : K (.int .i64 (if val c < 16 then (val c : Int) else -1)) w) :
    Calls prog 30 #[.string ⟨#[48, 49, 50, 51, 52, 53, 54, 55, 56, 57, 97, 98, 99, 100, 101, 102]⟩, bv c] w (Ret K) := by
  refine c30 ?_
  unfold B30
  refine c34 ?_
  unfold B34
  refine ef_ext (v := .int .i64 (if val c < 16 then (val c : Int) else -1)) (fun w => ?_) k
  have h1 : (oCall (.func (.func 36) #[] #[]) #[.string ⟨#[48, 49, 50, 51, 52, 53, 54, 55, 56, 57, 97, 98, 99, 100, 101, 102]⟩, bv c]).run prog w = (vN (Extern.BytealgIndexByte.indexByte #[.string ⟨digs.toArray⟩, .int .u8 c.toNat])).run prog w := by kernel_rfl
  rw [h1]
  refine vN_run ?_
  have := Lib.run_indexByteString (P := prog) ⟨digs.toArray⟩ (c.toNat : Int) w
  rw [this]
  congr 2
  have e : ((c.toNat : Int).toNat).toUInt8 = c := by simp
  rw [e, ← index_val]
theorem or4 : ∀ a b : Fin 16, (IntKind.i64.wrap ((BitVec.ofInt 64 ((a.val * 16 : Nat) : Int) ||| BitVec.ofInt 64 (b.val : Int)).toNat : Int)) = ((a.val * 16 + b.val : Nat) : Int) := by decide +kernel
theorem o_or4 {P : Program} {t : TypeId} {a b : Nat} (ha : a < 16) (hb : b < 16) {K : Value → World → Prop} : pvv P (binOp .or t (.int .i64 ((a * 16 : Nat) : Int)) (.int .i64 (b : Int))) w K = K (.int .i64 ((a * 16 + b : Nat) : Int)) w := pvv_eq fun w => by
  have := or4 ⟨a, ha⟩ ⟨b, hb⟩
  show (pure (.int .i64 (IntKind.i64.wrap ((BitVec.ofInt 64 ((a * 16 : Nat) : Int) ||| BitVec.ofInt 64 (b : Int)).toNat : Int))) : Sem Value).run P w = _
  rw [this]; rfl
theorem UnHex_spec (h : sat E w H) (s : List UInt8) (k : ∀ w', sat E w' H → K (hv2 (unhex s)) w') : Calls prog 18 #[tv s] w (Ret K) := by
  refine c18 ?_
  unfold B18
  refine alloc_sl h fun b0 w h => ?_
  refine alloc_sl h fun b1 w h => ?_
  have h : sat E w (pts b1 (.cells (zeros32.map bv).toArray 23 (0, 0)) * (pts b0 (.cells (zeros32.map bv).toArray 23 (0, 0)) * H)) := h
  rw [o_lenT, o_neInt]
  refine cd_dec' (fun heq => ?_) (fun hne => ?_)
  · have hl : s.length = 64 := by omega
    refine lp_nat (fun q σ w => ∃ i : Nat, σ = [.int .i64 i] ∧ q = 32 - i ∧ i ≤ 32 ∧ (∀ j, j < 2 * i → val (s.getD j 0) < 16) ∧ sat E w (pts b1 (.cells (((pairs s 32).take i ++ zeros32.drop i).map bv).toArray 23 (0, 0)) * (pts b0 (.cells (zeros32.map bv).toArray 23 (0, 0)) * H))) 32 ⟨0, rfl, rfl, by omega, fun j hj => by omega, h⟩ ?_
    clear h
    rintro q σ w again ⟨i, rfl, rfl, hi, hg, h⟩ hag
    rw [pop_cons, fin_nil, o_lss]
    refine cd_dec (fun hlt => ?_) (fun hge => ?_)
    · have hlt : i < 32 := by omega
      refine dr_sl h fun w h _ => ?_
      have e0 : IntKind.i64.wrap (2 * (i : Int)) = ((2 * i : Nat) : Int) := by rw [i64_of (by omega) (by omega)]; omega
      have e1 : IntKind.i64.wrap (((2 * i : Nat) : Int) + 1) = ((2 * i + 1 : Nat) : Int) := by rw [i64_of (by omega) (by omega)]; omega
      rw [o_mul, e0, o_indexT (by omega) (by rw [Int.toNat_natCast]; omega), o_mul, e0, o_add, e1, o_indexT (by omega) (by rw [Int.toNat_natCast]; omega), Int.toNat_natCast, Int.toNat_natCast]
      have hbad : ∀ j, j < 64 → ¬ val (s.getD j 0) < 16 → (∀ {e : Value}, e = .agg (zeros32.map bv).toArray → pvv prog (Instr.build 23 #[]) w fun t_21 w => efu prog (Instr.storeAt 23 (.pointer (some ⟨b0, 0, none⟩)) t_21) w fun u_22 w => ∃ r_23, (do loadVar 23 (← asAddr (.pointer (some ⟨b0, 0, none⟩)))).run prog w = .ok r_23 w ∧ K (.tuple #[r_23, (.int .i64 3)]) w) := fun j hj hv e he => by
        refine zeros_build ?_
        refine hash_ret2 (b := b0) h zeros32_length zeros32_length fun w h => ?_
        rw [unhex_bad (by omega) hv] at k
        exact k _ h.drop.drop
      refine IndexByte_spec ?_
      refine IndexByte_spec ?_
      by_cases h1 : val (s.getD (2 * i) 0) < 16
      · have f1 : ¬ ((val (s.getD (2 * i) 0) : Int) < 0) := by omega
        simp only [h1, f1, ↓o_nil, ↓o_field, ↓o_add, ↓o_sub, ↓o_mul, ↓o_lss, ↓o_leq, ↓o_gtr, ↓o_geq, ↓o_not, ↓o_pick, ↓o_eqInt, ↓o_neInt, ↓o_eqBool, ↓o_neBool, ↓o_eqPtr, ↓o_nePtr, ↓o_eqPtr', ↓o_eqSl, ↓o_neSl, ↓o_eqStr, ↓o_neStr, ↓o_len, ↓o_lenS, ↓o_min, ↓o_max, ↓o_extract, ↓o_convInt, ↓cd_true, ↓cd_false, ↓gate_tt, ↓gate_ff, ↓gate_tf, ↓gate_ft, ↓gate_undef, ↓o_bind, ↓stay_v, ↓pop_cons, ↓fin_nil, Option.isNone_none, Option.isNone_some, Bool.not_true, Bool.not_false, Nat.zero_add, decide_true, decide_false, if_true, if_false, Bool.false_eq_true, ↓reduceIte]
        by_cases h2 : val (s.getD (2 * i + 1) 0) < 16
        · have f2 : ¬ ((val (s.getD (2 * i + 1) 0) : Int) < 0) := by omega
          simp only [h2, f2, ↓o_nil, ↓o_field, ↓o_add, ↓o_sub, ↓o_mul, ↓o_lss, ↓o_leq, ↓o_gtr, ↓o_geq, ↓o_not, ↓o_pick, ↓o_eqInt, ↓o_neInt, ↓o_eqBool, ↓o_neBool, ↓o_eqPtr, ↓o_nePtr, ↓o_eqPtr', ↓o_eqSl, ↓o_neSl, ↓o_eqStr, ↓o_neStr, ↓o_len, ↓o_lenS, ↓o_min, ↓o_max, ↓o_extract, ↓o_convInt, ↓cd_true, ↓cd_false, ↓gate_tt, ↓gate_ff, ↓gate_tf, ↓gate_ft, ↓gate_undef, ↓o_bind, ↓stay_v, ↓pop_cons, ↓fin_nil, Option.isNone_none, Option.isNone_some, Bool.not_true, Bool.not_false, Nat.zero_add, decide_true, decide_false, if_true, if_false, Bool.false_eq_true, ↓reduceIte]
          rw [show Value.int .u64 4 = Value.int .u64 ((4 : Nat) : Int) from rfl, o_shl (by decide)]
          have e2 : IntKind.i64.wrap ((val (s.getD (2 * i) 0) : Int) * 2 ^ 4) = ((val (s.getD (2 * i) 0) * 16 : Nat) : Int) := by rw [i64_of (by omega) (by omega)]; omega
          rw [e2, o_or4 h1 h2, o_convInt]
          have e3 : Value.int .u8 (IntKind.u8.wrap ((val (s.getD (2 * i) 0) * 16 + val (s.getD (2 * i + 1) 0) : Nat) : Int)) = bv (pair s i) := by
            unfold bv pair; rw [IntKind.wrap_u8]; congr 1
          rw [e3, o_indexA (by omega) (by omega)]
          refine store_sl (b := b1) (o := 0 + (i : Int).toNat) h rfl (by simp [pairs_length, zeros32_length]; omega) fun w h => ?_
          try rw [o_add]
          rw [i64_of (by omega) (by omega)]
          refine hag (32 - (i + 1)) _ _ (by omega) ⟨i + 1, rfl, rfl, by omega, fun j hj => ?_, ?_⟩
          · by_cases c1 : j < 2 * i
            · exact hg j c1
            · by_cases c2 : j = 2 * i
              · rw [c2]; exact h1
              · rw [show j = 2 * i + 1 by omega]; exact h2
          · have e4 : (((pairs s 32).take i ++ zeros32.drop i).map bv).set (0 + (i : Int).toNat) (bv (pair s i)) = ((pairs s 32).take (i + 1) ++ zeros32.drop (i + 1)).map bv := by
              rw [Nat.zero_add, Int.toNat_natCast, ← List.map_set]
              congr 1
              refine take_drop_set (pairs_length _ _) zeros32_length hlt ?_
              simp [pairs, hlt]
            rw [e4] at h
            exact h
        · simp only [h2, ↓o_nil, ↓o_field, ↓o_add, ↓o_sub, ↓o_mul, ↓o_lss, ↓o_leq, ↓o_gtr, ↓o_geq, ↓o_not, ↓o_pick, ↓o_eqInt, ↓o_neInt, ↓o_eqBool, ↓o_neBool, ↓o_eqPtr, ↓o_nePtr, ↓o_eqPtr', ↓o_eqSl, ↓o_neSl, ↓o_eqStr, ↓o_neStr, ↓o_len, ↓o_lenS, ↓o_min, ↓o_max, ↓o_extract, ↓o_convInt, ↓cd_true, ↓cd_false, ↓gate_tt, ↓gate_ff, ↓gate_tf, ↓gate_ft, ↓gate_undef, ↓o_bind, ↓stay_v, ↓pop_cons, ↓fin_nil, Option.isNone_none, Option.isNone_some, Bool.not_true, Bool.not_false, Nat.zero_add, decide_true, decide_false, if_true, if_false, Bool.false_eq_true, ↓reduceIte, show decide ((-1 : Int) < 0) = true from rfl]
          exact hbad _ (by omega) h2 rfl
      · simp only [h1, ↓o_nil, ↓o_field, ↓o_add, ↓o_sub, ↓o_mul, ↓o_lss, ↓o_leq, ↓o_gtr, ↓o_geq, ↓o_not, ↓o_pick, ↓o_eqInt, ↓o_neInt, ↓o_eqBool, ↓o_neBool, ↓o_eqPtr, ↓o_nePtr, ↓o_eqPtr', ↓o_eqSl, ↓o_neSl, ↓o_eqStr, ↓o_neStr, ↓o_len, ↓o_lenS, ↓o_min, ↓o_max, ↓o_extract, ↓o_convInt, ↓cd_true, ↓cd_false, ↓gate_tt, ↓gate_ff, ↓gate_tf, ↓gate_ft, ↓gate_undef, ↓o_bind, ↓stay_v, ↓pop_cons, ↓fin_nil, Option.isNone_none, Option.isNone_some, Bool.not_true, Bool.not_false, Nat.zero_add, decide_true, decide_false, if_true, if_false, Bool.false_eq_true, ↓reduceIte, show decide ((-1 : Int) < 0) = true from rfl]
        exact hbad _ (by omega) h1 rfl
    · have hi2 : i = 32 := by omega
      subst hi2
      have e1 : (pairs s 32).take 32 ++ zeros32.drop 32 = pairs s 32 := by
        rw [List.take_of_length_le (by rw [pairs_length]; omega)]; simp [zeros32]
      rw [e1] at h
      refine ld_agg (b := b1) h (by simp [pairs_length]) ?_
      refine hash_ret2 (b := b0) h (pairs_length _ _) zeros32_length fun w h => ?_
      rw [unhex_good hl hg] at k
      exact k _ h.drop.drop
  · refine ld_agg (b := b1) h (by simp [zeros32_length]) ?_
    have e : unhex s = (zeros32, 3) := by unfold unhex; rw [if_neg (by omega)]
    refine hash_ret2 (b := b0) h zeros32_length zeros32_length fun w h => ?_
    rw [e] at k
    exact k _ h.drop.drop
end Go.Proofs.Ytjmgkfpjaelilaa
