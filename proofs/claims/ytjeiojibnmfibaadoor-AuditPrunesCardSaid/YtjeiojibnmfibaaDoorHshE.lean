/-
  mix: a block of 64 bytes, mixed into a hash.
-/
import Derived.Test.YtjeiojibnmfibaaDoorHshD
import Derived.Test.YtjeiojibnmfibaaDoorRow
set_option linter.all false
set_option maxRecDepth 10000
namespace Go.Proofs.YtjeiojibnmfibaaDoor
open Go Hold
variable {E : World0} {w : World} {H R : HP} {K : Value → World → Prop}
/-- The words of the block, the first sixteen. -/
theorem mix_early (h : sat E w H) {i : Nat} (hi : i < 64) (h16 : (i : Int) < 16) {b3 o bb c : Nat} {e : TypeId} {us : List UInt32} (hus : us.length = i) {b : List UInt8} (hb : Rds H (.slice (some ⟨bb, o, none⟩) b.length c) b.length (b.map bv)) (hbl : 64 ≤ b.length)
    [Own H b3 (.cells (us.map wv ++ List.replicate (64 - i) (wv 0)).toArray e (0, 0)) R] {k : List Value → World → Prop}
    (hk : ∀ w, sat E w (pts b3 (.cells ((us ++ [word b i]).map wv ++ List.replicate (64 - (i + 1)) (wv 0)).toArray e (0, 0)) * R) → k [] w) :
        dr w fun w =>
        pvv prog (binOp .mul 3 (.int .i64 4) (.int .i64 i)) w fun t_9 w =>
        pvv prog (Instr.indexAt 72 (.slice (some ⟨bb, o, none⟩) b.length c) t_9) w fun t_10 w =>
        pvv prog (binOp .mul 3 (.int .i64 4) (.int .i64 i)) w fun t_11 w =>
        pvv prog (binOp .add 3 t_11 (.int .i64 1)) w fun t_12 w =>
        pvv prog (Instr.indexAt 72 (.slice (some ⟨bb, o, none⟩) b.length c) t_12) w fun t_13 w =>
        pvv prog (binOp .mul 3 (.int .i64 4) (.int .i64 i)) w fun t_14 w =>
        pvv prog (binOp .add 3 t_14 (.int .i64 2)) w fun t_15 w =>
        pvv prog (Instr.indexAt 72 (.slice (some ⟨bb, o, none⟩) b.length c) t_15) w fun t_16 w =>
        pvv prog (binOp .mul 3 (.int .i64 4) (.int .i64 i)) w fun t_17 w =>
        pvv prog (binOp .add 3 t_17 (.int .i64 3)) w fun t_18 w =>
        pvv prog (Instr.indexAt 72 (.slice (some ⟨bb, o, none⟩) b.length c) t_18) w fun t_19 w =>
        bindS (vN (Instr.loadAt 5 t_10)) fun m_21 => ldv prog (Instr.loadAt 5 t_10) w fun t_20 w =>
        pvv prog (convert 5 101 t_20) w fun t_22 w =>
        pvv prog (binOp .shl 101 t_22 (.int .u64 24)) w fun t_23 w =>
        bindS (vN (Instr.loadAt 5 t_13)) fun m_25 => ldv prog (Instr.loadAt 5 t_13) w fun t_24 w =>
        pvv prog (convert 5 101 t_24) w fun t_26 w =>
        pvv prog (binOp .shl 101 t_26 (.int .u64 16)) w fun t_27 w =>
        pvv prog (binOp .or 101 t_23 t_27) w fun t_28 w =>
        bindS (vN (Instr.loadAt 5 t_16)) fun m_30 => ldv prog (Instr.loadAt 5 t_16) w fun t_29 w =>
        pvv prog (convert 5 101 t_29) w fun t_31 w =>
        pvv prog (binOp .shl 101 t_31 (.int .u64 8)) w fun t_32 w =>
        pvv prog (binOp .or 101 t_28 t_32) w fun t_33 w =>
        bindS (vN (Instr.loadAt 5 t_19)) fun m_35 => ldv prog (Instr.loadAt 5 t_19) w fun t_34 w =>
        pvv prog (convert 5 101 t_34) w fun t_36 w =>
        pvv prog (binOp .or 101 t_33 t_36) w fun t_37 w =>
        pvv prog (Instr.indexAt 121 (.pointer (some ⟨b3, 0, none⟩)) (.int .i64 i)) w fun t_38 w =>
        efu prog (Instr.storeAt 101 t_38 t_37) w fun u_39 w =>
        k [] w := by
  have e0 : IntKind.i64.wrap (4 * (i : Int)) = ((4 * i : Nat) : Int) := by rw [i64_of (by omega) (by omega)]; omega
  have e1 : IntKind.i64.wrap (((4 * i : Nat) : Int) + 1) = ((4 * i + 1 : Nat) : Int) := by rw [i64_of (by omega) (by omega)]; omega
  have e2 : IntKind.i64.wrap (((4 * i : Nat) : Int) + 2) = ((4 * i + 2 : Nat) : Int) := by rw [i64_of (by omega) (by omega)]; omega
  have e3 : IntKind.i64.wrap (((4 * i : Nat) : Int) + 3) = ((4 * i + 3 : Nat) : Int) := by rw [i64_of (by omega) (by omega)]; omega
  refine dr_sl h fun w h _ => ?_
  have ix : ∀ {j : Nat}, j < b.length → ∀ {w : World} {K : Value → World → Prop}, pvv prog (Instr.indexAt 72 (.slice (some ⟨bb, o, none⟩) b.length c) (.int .i64 (j : Int))) w K = K (.pointer (some ⟨bb, o + j, none⟩)) w := fun {j} hj {w K} => by
    rw [o_index (by omega) (by omega)]; simp
  simp only [e0, e1, e2, e3, ↓o_nil, ↓o_field, ↓o_add, ↓o_sub, ↓o_mul, ↓o_lss, ↓o_leq, ↓o_gtr, ↓o_geq, ↓o_not, ↓o_pick, ↓o_eqInt, ↓o_neInt, ↓o_eqBool, ↓o_neBool, ↓o_eqPtr, ↓o_nePtr, ↓o_eqPtr', ↓o_eqSl, ↓o_neSl, ↓o_eqStr, ↓o_neStr, ↓o_len, ↓o_lenS, ↓o_min, ↓o_max, ↓o_extract, ↓o_convInt, ↓cd_true, ↓cd_false, ↓gate_tt, ↓gate_ff, ↓gate_tf, ↓gate_ft, ↓gate_undef, ↓o_bind, ↓stay_v, ↓pop_cons, ↓fin_nil, Option.isNone_none, Option.isNone_some, Bool.not_true, Bool.not_false, Nat.zero_add, decide_true, decide_false, if_true, if_false, Bool.false_eq_true, ↓reduceIte, ix (j := 4 * i) (by omega), ix (j := 4 * i + 1) (by omega), ix (j := 4 * i + 2) (by omega), ix (j := 4 * i + 3) (by omega)]
  refine ld_rd h hb _ rfl (getbv (by omega)) ?_
  rw [o_convBW, o_shlW' (by decide) (by decide)]
  refine ld_rd h hb _ rfl (getbv (by omega)) ?_
  rw [o_convBW, o_shlW' (by decide) (by decide), o_orW]
  refine ld_rd h hb _ rfl (getbv (by omega)) ?_
  rw [o_convBW, o_shlW' (by decide) (by decide), o_orW]
  refine ld_rd h hb _ rfl (getbv (by omega)) ?_
  rw [o_convBW, o_orW, o_indexA (by omega) (by omega)]
  refine store_sl (o := 0 + i) h rfl (by simp [hus]; omega) fun w h => ?_
  refine hk _ ?_
  have : (us.map wv ++ List.replicate (64 - i) (wv 0)).set (0 + i) (wv (word b i)) = (us ++ [word b i]).map wv ++ List.replicate (64 - (i + 1)) (wv 0) := by
    rw [Nat.zero_add, set_fill (by simpa using hus) (by omega)]; simp
  rw [← this]
  exact h
end Go.Proofs.YtjeiojibnmfibaaDoor
