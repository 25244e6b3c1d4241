/-
  mix: the block's further words.
-/
import Derived.Test.YtjeiojibnmfibaaDoorHshE
set_option linter.all false
set_option maxRecDepth 10000
namespace Go.Proofs.YtjeiojibnmfibaaDoor
open Go Hold
variable {E : World0} {w : World} {H R : HP} {K : Value → World → Prop}
theorem mix_late (h : sat E w H) {i : Nat} (hi : i < 64) (h16 : ¬ (i : Int) < 16) {b3 : Nat} {e : TypeId} {us : List UInt32} (hus : us.length = i)
    [own : Own H b3 (.cells (us.map wv ++ List.replicate (64 - i) (wv 0)).toArray e (0, 0)) R] {k : List Value → World → Prop}
    (hk : ∀ w, sat E w (pts b3 (.cells ((us ++ [wNext us i]).map wv ++ List.replicate (64 - (i + 1)) (wv 0)).toArray e (0, 0)) * R) → k [] w) :
      dr w fun w =>
      pvv prog (binOp .sub 3 (.int .i64 i) (.int .i64 15)) w fun t_41 w =>
      pvv prog (Instr.indexAt 121 (.pointer (some ⟨b3, 0, none⟩)) t_41) w fun t_42 w =>
      pvv prog (binOp .sub 3 (.int .i64 i) (.int .i64 15)) w fun t_43 w =>
      pvv prog (Instr.indexAt 121 (.pointer (some ⟨b3, 0, none⟩)) t_43) w fun t_44 w =>
      pvv prog (binOp .sub 3 (.int .i64 i) (.int .i64 15)) w fun t_45 w =>
      pvv prog (Instr.indexAt 121 (.pointer (some ⟨b3, 0, none⟩)) t_45) w fun t_46 w =>
      bindS (vN (Instr.loadAt 101 t_42)) fun m_48 => ldv prog (Instr.loadAt 101 t_42) w fun t_47 w =>
      bindS (vN (Instr.loadAt 101 t_44)) fun m_50 => ldv prog (Instr.loadAt 101 t_44) w fun t_49 w =>
      bindS (vN (Instr.loadAt 101 t_46)) fun m_52 => ldv prog (Instr.loadAt 101 t_46) w fun t_51 w =>
      pvv prog (binOp .shr 101 t_51 (.int .u64 3)) w fun t_53 w =>
      Calls prog 83 #[t_47, (.int .i64 (-7))] w (Ret fun t_54 w => stay prog none m_52 t_51 w <| stay prog none m_50 t_49 w <| 
      Calls prog 83 #[t_49, (.int .i64 (-18))] w (Ret fun t_55 w => stay prog none m_52 t_51 w <| stay prog none m_48 t_47 w <| 
      pvv prog (binOp .xor 101 t_54 t_55) w fun t_56 w =>
      pvv prog (binOp .xor 101 t_56 t_53) w fun t_57 w =>
      dr w fun w =>
      pvv prog (binOp .sub 3 (.int .i64 i) (.int .i64 2)) w fun t_58 w =>
      pvv prog (Instr.indexAt 121 (.pointer (some ⟨b3, 0, none⟩)) t_58) w fun t_59 w =>
      pvv prog (binOp .sub 3 (.int .i64 i) (.int .i64 2)) w fun t_60 w =>
      pvv prog (Instr.indexAt 121 (.pointer (some ⟨b3, 0, none⟩)) t_60) w fun t_61 w =>
      pvv prog (binOp .sub 3 (.int .i64 i) (.int .i64 2)) w fun t_62 w =>
      pvv prog (Instr.indexAt 121 (.pointer (some ⟨b3, 0, none⟩)) t_62) w fun t_63 w =>
      bindS (vN (Instr.loadAt 101 t_59)) fun m_65 => ldv prog (Instr.loadAt 101 t_59) w fun t_64 w =>
      bindS (vN (Instr.loadAt 101 t_61)) fun m_67 => ldv prog (Instr.loadAt 101 t_61) w fun t_66 w =>
      bindS (vN (Instr.loadAt 101 t_63)) fun m_69 => ldv prog (Instr.loadAt 101 t_63) w fun t_68 w =>
      pvv prog (binOp .shr 101 t_68 (.int .u64 10)) w fun t_70 w =>
      Calls prog 83 #[t_64, (.int .i64 (-17))] w (Ret fun t_71 w => stay prog none m_69 t_68 w <| stay prog none m_67 t_66 w <| 
      Calls prog 83 #[t_66, (.int .i64 (-19))] w (Ret fun t_72 w => stay prog none m_69 t_68 w <| stay prog none m_65 t_64 w <| 
      pvv prog (binOp .xor 101 t_71 t_72) w fun t_73 w =>
      pvv prog (binOp .xor 101 t_73 t_70) w fun t_74 w =>
      dr w fun w =>
      pvv prog (binOp .sub 3 (.int .i64 i) (.int .i64 16)) w fun t_75 w =>
      pvv prog (Instr.indexAt 121 (.pointer (some ⟨b3, 0, none⟩)) t_75) w fun t_76 w =>
      pvv prog (binOp .sub 3 (.int .i64 i) (.int .i64 7)) w fun t_77 w =>
      pvv prog (Instr.indexAt 121 (.pointer (some ⟨b3, 0, none⟩)) t_77) w fun t_78 w =>
      bindS (vN (Instr.loadAt 101 t_76)) fun m_80 => ldv prog (Instr.loadAt 101 t_76) w fun t_79 w =>
      pvv prog (binOp .add 101 t_79 t_57) w fun t_81 w =>
      bindS (vN (Instr.loadAt 101 t_78)) fun m_83 => ldv prog (Instr.loadAt 101 t_78) w fun t_82 w =>
      pvv prog (binOp .add 101 t_81 t_82) w fun t_84 w =>
      pvv prog (binOp .add 101 t_84 t_74) w fun t_85 w =>
      pvv prog (Instr.indexAt 121 (.pointer (some ⟨b3, 0, none⟩)) (.int .i64 i)) w fun t_86 w =>
      efu prog (Instr.storeAt 101 t_86 t_85) w fun u_87 w =>
      k [] w)))) := by
  have e15 : IntKind.i64.wrap ((i : Int) - 15) = ((i - 15 : Nat) : Int) := by rw [i64_of (by omega) (by omega)]; omega
  have e2 : IntKind.i64.wrap ((i : Int) - 2) = ((i - 2 : Nat) : Int) := by rw [i64_of (by omega) (by omega)]; omega
  have e16 : IntKind.i64.wrap ((i : Int) - 16) = ((i - 16 : Nat) : Int) := by rw [i64_of (by omega) (by omega)]; omega
  have e7 : IntKind.i64.wrap ((i : Int) - 7) = ((i - 7 : Nat) : Int) := by rw [i64_of (by omega) (by omega)]; omega
  have ix : ∀ {j : Nat}, j < 64 → ∀ {w : World} {K : Value → World → Prop}, pvv prog (Instr.indexAt 121 (.pointer (some ⟨b3, 0, none⟩)) (.int .i64 (j : Int))) w K = K (.pointer (some ⟨b3, j, none⟩)) w := fun {j} hj {w K} => by
    rw [o_indexA (by omega) (by omega)]; simp
  have h := h.own b3
  have gw : ∀ {j : Nat}, j < i → (us.map wv ++ List.replicate (64 - i) (wv 0))[j]? = some (wv (us.getD j 0)) := fun hj => getwv (by omega)
  refine dr_sl h fun w h _ => ?_
  simp only [e15, ↓o_nil, ↓o_field, ↓o_add, ↓o_sub, ↓o_mul, ↓o_lss, ↓o_leq, ↓o_gtr, ↓o_geq, ↓o_not, ↓o_pick, ↓o_eqInt, ↓o_neInt, ↓o_eqBool, ↓o_neBool, ↓o_eqPtr, ↓o_nePtr, ↓o_eqPtr', ↓o_eqSl, ↓o_neSl, ↓o_eqStr, ↓o_neStr, ↓o_len, ↓o_lenS, ↓o_min, ↓o_max, ↓o_extract, ↓o_convInt, ↓cd_true, ↓cd_false, ↓gate_tt, ↓gate_ff, ↓gate_tf, ↓gate_ft, ↓gate_undef, ↓o_bind, ↓stay_v, ↓pop_cons, ↓fin_nil, Option.isNone_none, Option.isNone_some, Bool.not_true, Bool.not_false, Nat.zero_add, decide_true, decide_false, if_true, if_false, Bool.false_eq_true, ↓reduceIte, ix (j := i - 15) (by omega)]
  refine ld_in h (gw (by omega)) (ld_in h (gw (by omega)) (ld_in h (gw (by omega)) ?_))
  rw [o_shrW' (by decide) (by decide)]
  refine Rot_spec _ (n := 7) (by decide) (by decide) ?_
  try simp only [stay_v]
  refine st_in h (gw (by omega)) (st_in h (gw (by omega)) ?_)
  refine Rot_spec _ (n := 18) (by decide) (by decide) ?_
  try simp only [stay_v]
  refine st_in h (gw (by omega)) (st_in h (gw (by omega)) ?_)
  rw [o_xorW, o_xorW]
  refine dr_sl h fun w h _ => ?_
  simp only [e2, ↓o_nil, ↓o_field, ↓o_add, ↓o_sub, ↓o_mul, ↓o_lss, ↓o_leq, ↓o_gtr, ↓o_geq, ↓o_not, ↓o_pick, ↓o_eqInt, ↓o_neInt, ↓o_eqBool, ↓o_neBool, ↓o_eqPtr, ↓o_nePtr, ↓o_eqPtr', ↓o_eqSl, ↓o_neSl, ↓o_eqStr, ↓o_neStr, ↓o_len, ↓o_lenS, ↓o_min, ↓o_max, ↓o_extract, ↓o_convInt, ↓cd_true, ↓cd_false, ↓gate_tt, ↓gate_ff, ↓gate_tf, ↓gate_ft, ↓gate_undef, ↓o_bind, ↓stay_v, ↓pop_cons, ↓fin_nil, Option.isNone_none, Option.isNone_some, Bool.not_true, Bool.not_false, Nat.zero_add, decide_true, decide_false, if_true, if_false, Bool.false_eq_true, ↓reduceIte, ix (j := i - 2) (by omega)]
  refine ld_in h (gw (by omega)) (ld_in h (gw (by omega)) (ld_in h (gw (by omega)) ?_))
  rw [o_shrW' (by decide) (by decide)]
  refine Rot_spec _ (n := 17) (by decide) (by decide) ?_
  try simp only [stay_v]
  refine st_in h (gw (by omega)) (st_in h (gw (by omega)) ?_)
  refine Rot_spec _ (n := 19) (by decide) (by decide) ?_
  try simp only [stay_v]
  refine st_in h (gw (by omega)) (st_in h (gw (by omega)) ?_)
  rw [o_xorW, o_xorW]
  refine dr_sl h fun w h _ => ?_
  simp only [e16, e7, ↓o_nil, ↓o_field, ↓o_add, ↓o_sub, ↓o_mul, ↓o_lss, ↓o_leq, ↓o_gtr, ↓o_geq, ↓o_not, ↓o_pick, ↓o_eqInt, ↓o_neInt, ↓o_eqBool, ↓o_neBool, ↓o_eqPtr, ↓o_nePtr, ↓o_eqPtr', ↓o_eqSl, ↓o_neSl, ↓o_eqStr, ↓o_neStr, ↓o_len, ↓o_lenS, ↓o_min, ↓o_max, ↓o_extract, ↓o_convInt, ↓cd_true, ↓cd_false, ↓gate_tt, ↓gate_ff, ↓gate_tf, ↓gate_ft, ↓gate_undef, ↓o_bind, ↓stay_v, ↓pop_cons, ↓fin_nil, Option.isNone_none, Option.isNone_some, Bool.not_true, Bool.not_false, Nat.zero_add, decide_true, decide_false, if_true, if_false, Bool.false_eq_true, ↓reduceIte, ix (j := i - 16) (by omega), ix (j := i - 7) (by omega)]
  refine ld_in h (gw (by omega)) ?_
  rw [o_addW]
  refine ld_in h (gw (by omega)) ?_
  rw [o_addW, o_addW, ix hi]
  refine store_sl h rfl (by simp [hus]; omega) fun w h => ?_
  refine hk _ ?_
  rw [set_fill (by simpa using hus) (by omega)] at h
  have e : us.map wv ++ [wv (wNext us i)] = (us ++ [wNext us i]).map wv := by simp
  rw [← e]
  exact h
end Go.Proofs.YtjeiojibnmfibaaDoor
