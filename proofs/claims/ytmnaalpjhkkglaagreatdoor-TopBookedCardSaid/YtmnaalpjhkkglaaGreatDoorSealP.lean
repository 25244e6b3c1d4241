/-
  mix: a block of 64 bytes, mixed into a hash.
-/
import Derived.Test.YtmnaalpjhkkglaaGreatDoorHshD
import Derived.Test.YtmnaalpjhkkglaaGreatDoorRow
set_option linter.all false
set_option maxRecDepth 10000
namespace Go.Proofs.YtmnaalpjhkkglaaGreatDoor
open Go Hold
variable {E : World0} {w : World} {H R : HP} {K : Value → World → Prop}
/-- The words of the block, the first sixteen. -/
theorem mix_early (h : sat E w H) {i : Nat} (hi : i < 64) (h16 : (i : Int) < 16) {b3 o bb c : Nat} {e : TypeId} {us : List UInt32} (hus : us.length = i) {b : List UInt8} (hb : Rds H (.slice (some ⟨bb, o, none⟩) b.length c) b.length (b.map bv)) (hbl : 64 ≤ b.length)
    [Own H b3 (.cells (us.map wv ++ List.replicate (64 - i) (wv 0)).toArray e (0, 0)) R] {k : List Value → World → Prop}
    (hk : ∀ w, sat E w (pts b3 (.cells ((us ++ [word b i]).map wv ++ List.replicate (64 - (i + 1)) (wv 0)).toArray e (0, 0)) * R) → k [] w) :
        dr w fun w =>
        pvv prog (binOp .mul 3 (.int .i64 4) (.int .i64 i)) w fun t_9 w =>
        pvv prog (Instr.indexAt 22 (.slice (some ⟨bb, o, none⟩) b.length c) t_9) w fun t_10 w =>
        pvv prog (binOp .mul 3 (.int .i64 4) (.int .i64 i)) w fun t_11 w =>
        pvv prog (binOp .add 3 t_11 (.int .i64 1)) w fun t_12 w =>
        pvv prog (Instr.indexAt 22 (.slice (some ⟨bb, o, none⟩) b.length c) t_12) w fun t_13 w =>
        pvv prog (binOp .mul 3 (.int .i64 4) (.int .i64 i)) w fun t_14 w =>
        pvv prog (binOp .add 3 t_14 (.int .i64 2)) w fun t_15 w =>
        pvv prog (Instr.indexAt 22 (.slice (some ⟨bb, o, none⟩) b.length c) t_15) w fun t_16 w =>
        pvv prog (binOp .mul 3 (.int .i64 4) (.int .i64 i)) w fun t_17 w =>
        pvv prog (binOp .add 3 t_17 (.int .i64 3)) w fun t_18 w =>
        pvv prog (Instr.indexAt 22 (.slice (some ⟨bb, o, none⟩) b.length c) t_18) w fun t_19 w =>
        bindS (vN (Instr.loadAt 5 t_10)) fun m_21 => ldv prog (Instr.loadAt 5 t_10) w fun t_20 w =>
        pvv prog (convert 5 74 t_20) w fun t_22 w =>
        pvv prog (binOp .shl 74 t_22 (.int .u64 24)) w fun t_23 w =>
        bindS (vN (Instr.loadAt 5 t_13)) fun m_25 => ldv prog (Instr.loadAt 5 t_13) w fun t_24 w =>
        pvv prog (convert 5 74 t_24) w fun t_26 w =>
        pvv prog (binOp .shl 74 t_26 (.int .u64 16)) w fun t_27 w =>
        pvv prog (binOp .or 74 t_23 t_27) w fun t_28 w =>
        bindS (vN (Instr.loadAt 5 t_16)) fun m_30 => ldv prog (Instr.loadAt 5 t_16) w fun t_29 w =>
        pvv prog (convert 5 74 t_29) w fun t_31 w =>
        pvv prog (binOp .shl 74 t_31 (.int .u64 8)) w fun t_32 w =>
        pvv prog (binOp .or 74 t_28 t_32) w fun t_33 w =>
        bindS (vN (Instr.loadAt 5 t_19)) fun m_35 => ldv prog (Instr.loadAt 5 t_19) w fun t_34 w =>
        pvv prog (convert 5 74 t_34) w fun t_36 w =>
        pvv prog (binOp .or 74 t_33 t_36) w fun t_37 w =>
        pvv prog (Instr.indexAt 119 (.pointer (some ⟨b3, 0, none⟩)) (.int .i64 i)) w fun t_38 w =>
        efu prog (Instr.storeAt 74 t_38 t_37) w fun u_39 w =>
        k [] w := by
  have e0 : IntKind.i64.wrap (4 * (i : Int)) = ((4 * i : Nat) : Int) := by rw [i64_of (by omega) (by omega)]; omega
  have e1 : IntKind.i64.wrap (((4 * i : Nat) : Int) + 1) = ((4 * i + 1 : Nat) : Int) := by rw [i64_of (by omega) (by omega)]; omega
  have e2 : IntKind.i64.wrap (((4 * i : Nat) : Int) + 2) = ((4 * i + 2 : Nat) : Int) := by rw [i64_of (by omega) (by omega)]; omega
  have e3 : IntKind.i64.wrap (((4 * i : Nat) : Int) + 3) = ((4 * i + 3 : Nat) : Int) := by rw [i64_of (by omega) (by omega)]; omega
  refine dr_sl h fun w h _ => ?_
  have ix : ∀ {j : Nat}, j < b.length → ∀ {w : World} {K : Value → World → Prop}, pvv prog (Instr.indexAt 22 (.slice (some ⟨bb, o, none⟩) b.length c) (.int .i64 (j : Int))) w K = K (.pointer (some ⟨bb, o + j, none⟩)) w := fun {j} hj {w K} => by
    rw [o_index (by omega) (by omega)]; simp
  simp only [e0, e1, e2, e3, ↓o_nil, ↓o_field, ↓o_add, ↓o_sub, ↓o_mul, ↓o_lss, ↓o_leq, ↓o_gtr, ↓o_geq, ↓o_not, ↓o_pick, ↓o_eqInt, ↓o_neInt, ↓o_eqBool, ↓o_neBool, ↓o_eqPtr, ↓o_nePtr, ↓o_eqPtr', ↓o_eqSl, ↓o_neSl, ↓o_eqStr, ↓o_neStr, ↓o_len, ↓o_lenS, ↓o_min, ↓o_max, ↓o_extract, ↓o_convInt, ↓cd_true, ↓cd_false, ↓gate_tt, ↓gate_ff, ↓gate_tf, ↓gate_ft, ↓gate_undef, ↓o_bind, ↓stay_v, ↓pop_cons, ↓fin_nil, Option.isNone_none, Option.isNone_some, Bool.not_true, Bool.not_false, Nat.zero_add, decide_true, decide_false, if_true, if_false, Bool.false_eq_true, ↓reduceIte, ix (j := 4 * i) (by omega), ix (j := 4 * i + 1) (by omega), ix (j := 4 * i + 2) (by omega), ix (j := 4 * i + 3) (by omega)]
  refine ld_rd h hb _ rfl (getbv (by omega)) ?_
  rw [o_convBW, o_shlW' (by decide) (by decide)]
  refine ld_rd h hb _ rfl (getbv (by omega)) ?_
  rw [o_convBW, o_shlW' (by decide) (by decide), o_orW]
  refine ld_rd h hb _ rfl (getbv (by omega)) ?_
  rw [o_convBW, o_shlW' (by decide) (by decide), o_orW]
  refine ld_rd h hb _ rfl (getbv (by omega)) ?_
  rw [o_convBW, o_orW, o_indexA (by omega) (by omega)]
  refine store_sl (o := 0 + i) h rfl (by simp [hus]; omega) fun w h => ?_
  refine hk _ ?_
  have : (us.map wv ++ List.replicate (64 - i) (wv 0)).set (0 + i) (wv (word b i)) = (us ++ [word b i]).map wv ++ List.replicate (64 - (i + 1)) (wv 0) := by
    rw [Nat.zero_add, set_fill (by simpa using hus) (by omega)]; simp
  rw [← this]
  exact h
end Go.Proofs.YtmnaalpjhkkglaaGreatDoor

/-
  mix: the block's further words.
-/
set_option linter.all false
set_option maxRecDepth 10000
namespace Go.Proofs.YtmnaalpjhkkglaaGreatDoor
open Go Hold
variable {E : World0} {w : World} {H R : HP} {K : Value → World → Prop}
theorem mix_late (h : sat E w H) {i : Nat} (hi : i < 64) (h16 : ¬ (i : Int) < 16) {b3 : Nat} {e : TypeId} {us : List UInt32} (hus : us.length = i)
    [own : Own H b3 (.cells (us.map wv ++ List.replicate (64 - i) (wv 0)).toArray e (0, 0)) R] {k : List Value → World → Prop}
    (hk : ∀ w, sat E w (pts b3 (.cells ((us ++ [wNext us i]).map wv ++ List.replicate (64 - (i + 1)) (wv 0)).toArray e (0, 0)) * R) → k [] w) :
      dr w fun w =>
      pvv prog (binOp .sub 3 (.int .i64 i) (.int .i64 15)) w fun t_41 w =>
      pvv prog (Instr.indexAt 119 (.pointer (some ⟨b3, 0, none⟩)) t_41) w fun t_42 w =>
      pvv prog (binOp .sub 3 (.int .i64 i) (.int .i64 15)) w fun t_43 w =>
      pvv prog (Instr.indexAt 119 (.pointer (some ⟨b3, 0, none⟩)) t_43) w fun t_44 w =>
      pvv prog (binOp .sub 3 (.int .i64 i) (.int .i64 15)) w fun t_45 w =>
      pvv prog (Instr.indexAt 119 (.pointer (some ⟨b3, 0, none⟩)) t_45) w fun t_46 w =>
      bindS (vN (Instr.loadAt 74 t_42)) fun m_48 => ldv prog (Instr.loadAt 74 t_42) w fun t_47 w =>
      bindS (vN (Instr.loadAt 74 t_44)) fun m_50 => ldv prog (Instr.loadAt 74 t_44) w fun t_49 w =>
      bindS (vN (Instr.loadAt 74 t_46)) fun m_52 => ldv prog (Instr.loadAt 74 t_46) w fun t_51 w =>
      pvv prog (binOp .shr 74 t_51 (.int .u64 3)) w fun t_53 w =>
      Calls prog 49 #[t_47, (.int .i64 (-7))] w (Ret fun t_54 w => stay prog none m_52 t_51 w <| stay prog none m_50 t_49 w <| 
      Calls prog 49 #[t_49, (.int .i64 (-18))] w (Ret fun t_55 w => stay prog none m_52 t_51 w <| stay prog none m_48 t_47 w <| 
      pvv prog (binOp .xor 74 t_54 t_55) w fun t_56 w =>
      pvv prog (binOp .xor 74 t_56 t_53) w fun t_57 w =>
      dr w fun w =>
      pvv prog (binOp .sub 3 (.int .i64 i) (.int .i64 2)) w fun t_58 w =>
      pvv prog (Instr.indexAt 119 (.pointer (some ⟨b3, 0, none⟩)) t_58) w fun t_59 w =>
      pvv prog (binOp .sub 3 (.int .i64 i) (.int .i64 2)) w fun t_60 w =>
      pvv prog (Instr.indexAt 119 (.pointer (some ⟨b3, 0, none⟩)) t_60) w fun t_61 w =>
      pvv prog (binOp .sub 3 (.int .i64 i) (.int .i64 2)) w fun t_62 w =>
      pvv prog (Instr.indexAt 119 (.pointer (some ⟨b3, 0, none⟩)) t_62) w fun t_63 w =>
      bindS (vN (Instr.loadAt 74 t_59)) fun m_65 => ldv prog (Instr.loadAt 74 t_59) w fun t_64 w =>
      bindS (vN (Instr.loadAt 74 t_61)) fun m_67 => ldv prog (Instr.loadAt 74 t_61) w fun t_66 w =>
      bindS (vN (Instr.loadAt 74 t_63)) fun m_69 => ldv prog (Instr.loadAt 74 t_63) w fun t_68 w =>
      pvv prog (binOp .shr 74 t_68 (.int .u64 10)) w fun t_70 w =>
      Calls prog 49 #[t_64, (.int .i64 (-17))] w (Ret fun t_71 w => stay prog none m_69 t_68 w <| stay prog none m_67 t_66 w <| 
      Calls prog 49 #[t_66, (.int .i64 (-19))] w (Ret fun t_72 w => stay prog none m_69 t_68 w <| stay prog none m_65 t_64 w <| 
      pvv prog (binOp .xor 74 t_71 t_72) w fun t_73 w =>
      pvv prog (binOp .xor 74 t_73 t_70) w fun t_74 w =>
      dr w fun w =>
      pvv prog (binOp .sub 3 (.int .i64 i) (.int .i64 16)) w fun t_75 w =>
      pvv prog (Instr.indexAt 119 (.pointer (some ⟨b3, 0, none⟩)) t_75) w fun t_76 w =>
      pvv prog (binOp .sub 3 (.int .i64 i) (.int .i64 7)) w fun t_77 w =>
      pvv prog (Instr.indexAt 119 (.pointer (some ⟨b3, 0, none⟩)) t_77) w fun t_78 w =>
      bindS (vN (Instr.loadAt 74 t_76)) fun m_80 => ldv prog (Instr.loadAt 74 t_76) w fun t_79 w =>
      pvv prog (binOp .add 74 t_79 t_57) w fun t_81 w =>
      bindS (vN (Instr.loadAt 74 t_78)) fun m_83 => ldv prog (Instr.loadAt 74 t_78) w fun t_82 w =>
      pvv prog (binOp .add 74 t_81 t_82) w fun t_84 w =>
      pvv prog (binOp .add 74 t_84 t_74) w fun t_85 w =>
      pvv prog (Instr.indexAt 119 (.pointer (some ⟨b3, 0, none⟩)) (.int .i64 i)) w fun t_86 w =>
      efu prog (Instr.storeAt 74 t_86 t_85) w fun u_87 w =>
      k [] w)))) := by
  have e15 : IntKind.i64.wrap ((i : Int) - 15) = ((i - 15 : Nat) : Int) := by rw [i64_of (by omega) (by omega)]; omega
  have e2 : IntKind.i64.wrap ((i : Int) - 2) = ((i - 2 : Nat) : Int) := by rw [i64_of (by omega) (by omega)]; omega
  have e16 : IntKind.i64.wrap ((i : Int) - 16) = ((i - 16 : Nat) : Int) := by rw [i64_of (by omega) (by omega)]; omega
  have e7 : IntKind.i64.wrap ((i : Int) - 7) = ((i - 7 : Nat) : Int) := by rw [i64_of (by omega) (by omega)]; omega
  have ix : ∀ {j : Nat}, j < 64 → ∀ {w : World} {K : Value → World → Prop}, pvv prog (Instr.indexAt 119 (.pointer (some ⟨b3, 0, none⟩)) (.int .i64 (j : Int))) w K = K (.pointer (some ⟨b3, j, none⟩)) w := fun {j} hj {w K} => by
    rw [o_indexA (by omega) (by omega)]; simp
  have h := h.own b3
  have gw : ∀ {j : Nat}, j < i → (us.map wv ++ List.replicate (64 - i) (wv 0))[j]? = some (wv (us.getD j 0)) := fun hj => getwv (by omega)
  refine dr_sl h fun w h _ => ?_
  simp only [e15, ↓o_nil, ↓o_field, ↓o_add, ↓o_sub, ↓o_mul, ↓o_lss, ↓o_leq, ↓o_gtr, ↓o_geq, ↓o_not, ↓o_pick, ↓o_eqInt, ↓o_neInt, ↓o_eqBool, ↓o_neBool, ↓o_eqPtr, ↓o_nePtr, ↓o_eqPtr', ↓o_eqSl, ↓o_neSl, ↓o_eqStr, ↓o_neStr, ↓o_len, ↓o_lenS, ↓o_min, ↓o_max, ↓o_extract, ↓o_convInt, ↓cd_true, ↓cd_false, ↓gate_tt, ↓gate_ff, ↓gate_tf, ↓gate_ft, ↓gate_undef, ↓o_bind, ↓stay_v, ↓pop_cons, ↓fin_nil, Option.isNone_none, Option.isNone_some, Bool.not_true, Bool.not_false, Nat.zero_add, decide_true, decide_false, if_true, if_false, Bool.false_eq_true, ↓reduceIte, ix (j := i - 15) (by omega)]
  refine ld_in h (gw (by omega)) (ld_in h (gw (by omega)) (ld_in h (gw (by omega)) ?_))
  rw [o_shrW' (by decide) (by decide)]
  refine Rot_spec _ (n := 7) (by decide) (by decide) ?_
  try simp only [stay_v]
  refine st_in h (gw (by omega)) (st_in h (gw (by omega)) ?_)
  refine Rot_spec _ (n := 18) (by decide) (by decide) ?_
  try simp only [stay_v]
  refine st_in h (gw (by omega)) (st_in h (gw (by omega)) ?_)
  rw [o_xorW, o_xorW]
  refine dr_sl h fun w h _ => ?_
  simp only [e2, ↓o_nil, ↓o_field, ↓o_add, ↓o_sub, ↓o_mul, ↓o_lss, ↓o_leq, ↓o_gtr, ↓o_geq, ↓o_not, ↓o_pick, ↓o_eqInt, ↓o_neInt, ↓o_eqBool, ↓o_neBool, ↓o_eqPtr, ↓o_nePtr, ↓o_eqPtr', ↓o_eqSl, ↓o_neSl, ↓o_eqStr, ↓o_neStr, ↓o_len, ↓o_lenS, ↓o_min, ↓o_max, ↓o_extract, ↓o_convInt, ↓cd_true, ↓cd_false, ↓gate_tt, ↓gate_ff, ↓gate_tf, ↓gate_ft, ↓gate_undef, ↓o_bind, ↓stay_v, ↓pop_cons, ↓fin_nil, Option.isNone_none, Option.isNone_some, Bool.not_true, Bool.not_false, Nat.zero_add, decide_true, decide_false, if_true, if_false, Bool.false_eq_true, ↓reduceIte, ix (j := i - 2) (by omega)]
  refine ld_in h (gw (by omega)) (ld_in h (gw (by omega)) (ld_in h (gw (by omega)) ?_))
  rw [o_shrW' (by decide) (by decide)]
  refine Rot_spec _ (n := 17) (by decide) (by decide) ?_
  try simp only [stay_v]
  refine st_in h (gw (by omega)) (st_in h (gw (by omega)) ?_)
  refine Rot_spec _ (n := 19) (by decide) (by decide) ?_
  try simp only [stay_v]
  refine st_in h (gw (by omega)) (st_in h (gw (by omega)) ?_)
  rw [o_xorW, o_xorW]
  refine dr_sl h fun w h _ => ?_
  simp only [e16, e7, ↓o_nil, ↓o_field, ↓o_add, ↓o_sub, ↓o_mul, ↓o_lss, ↓o_leq, ↓o_gtr, ↓o_geq, ↓o_not, ↓o_pick, ↓o_eqInt, ↓o_neInt, ↓o_eqBool, ↓o_neBool, ↓o_eqPtr, ↓o_nePtr, ↓o_eqPtr', ↓o_eqSl, ↓o_neSl, ↓o_eqStr, ↓o_neStr, ↓o_len, ↓o_lenS, ↓o_min, ↓o_max, ↓o_extract, ↓o_convInt, ↓cd_true, ↓cd_false, ↓gate_tt, ↓gate_ff, ↓gate_tf, ↓gate_ft, ↓gate_undef, ↓o_bind, ↓stay_v, ↓pop_cons, ↓fin_nil, Option.isNone_none, Option.isNone_some, Bool.not_true, Bool.not_false, Nat.zero_add, decide_true, decide_false, if_true, if_false, Bool.false_eq_true, ↓reduceIte, ix (j := i - 16) (by omega), ix (j := i - 7) (by omega)]
  refine ld_in h (gw (by omega)) ?_
  rw [o_addW]
  refine ld_in h (gw (by omega)) ?_
  rw [o_addW, o_addW, ix hi]
  refine store_sl h rfl (by simp [hus]; omega) fun w h => ?_
  refine hk _ ?_
  rw [set_fill (by simpa using hus) (by omega)] at h
  have e : us.map wv ++ [wv (wNext us i)] = (us ++ [wNext us i]).map wv := by simp
  rw [← e]
  exact h
end Go.Proofs.YtmnaalpjhkkglaaGreatDoor

/-
  mix: one round.
-/
set_option linter.all false
set_option maxRecDepth 10000
namespace Go.Proofs.YtmnaalpjhkkglaaGreatDoor
open Go Hold
variable {E : World0} {w : World} {H R : HP} {K : Value → World → Prop}
theorem mix_round (h : sat E w H) {i : Nat} (hi : i < 64) {b3 bk bq : Nat} {e1 e2 e3 : TypeId} {fr1 fr2 : Nat × Nat} {ks ws : List UInt32} (hks : ks.length = 64) (hws : ws.length = 64) {v : St}
    [own : Own H bq (.cells (v.list.map wv).toArray e3 (0, 0)) R] [hb3 : Has R b3 (.cells (ws.map wv).toArray e1 fr1)] [hbk : Has R bk (.cells (ks.map wv).toArray e2 fr2)] {k : List Value → World → Prop}
    (hk : ∀ w, sat E w (pts bq (.cells ((round (ks.getD i 0) (ws.getD i 0) v).list.map wv).toArray e3 (0, 0)) * R) → k [.int .i64 ((i + 1 : Nat) : Int)] w) :
        dr w fun w =>
        pvv prog (Instr.indexAt 76 (.pointer (some ⟨bq, 0, none⟩)) (.int .i64 4)) w fun t_99 w =>
        pvv prog (Instr.indexAt 76 (.pointer (some ⟨bq, 0, none⟩)) (.int .i64 4)) w fun t_100 w =>
        pvv prog (Instr.indexAt 76 (.pointer (some ⟨bq, 0, none⟩)) (.int .i64 4)) w fun t_101 w =>
        bindS (vN (Instr.loadAt 74 t_99)) fun m_103 => ldv prog (Instr.loadAt 74 t_99) w fun t_102 w =>
        bindS (vN (Instr.loadAt 74 t_100)) fun m_105 => ldv prog (Instr.loadAt 74 t_100) w fun t_104 w =>
        bindS (vN (Instr.loadAt 74 t_101)) fun m_107 => ldv prog (Instr.loadAt 74 t_101) w fun t_106 w =>
        Calls prog 49 #[t_102, (.int .i64 (-6))] w (Ret fun t_108 w => stay prog none m_107 t_106 w <| stay prog none m_105 t_104 w <| 
        Calls prog 49 #[t_104, (.int .i64 (-11))] w (Ret fun t_109 w => stay prog none m_107 t_106 w <| stay prog none m_103 t_102 w <| 
        pvv prog (binOp .xor 74 t_108 t_109) w fun t_110 w =>
        Calls prog 49 #[t_106, (.int .i64 (-25))] w (Ret fun t_111 w => stay prog none m_105 t_104 w <| stay prog none m_103 t_102 w <| 
        pvv prog (binOp .xor 74 t_110 t_111) w fun t_112 w =>
        dr w fun w =>
        pvv prog (Instr.indexAt 76 (.pointer (some ⟨bq, 0, none⟩)) (.int .i64 7)) w fun t_113 w =>
        pvv prog (Instr.indexAt 76 (.pointer (some ⟨bq, 0, none⟩)) (.int .i64 6)) w fun t_114 w =>
        pvv prog (Instr.indexAt 76 (.pointer (some ⟨bq, 0, none⟩)) (.int .i64 4)) w fun t_115 w =>
        pvv prog (Instr.indexAt 76 (.pointer (some ⟨bq, 0, none⟩)) (.int .i64 5)) w fun t_116 w =>
        pvv prog (Instr.indexAt 76 (.pointer (some ⟨bq, 0, none⟩)) (.int .i64 6)) w fun t_117 w =>
        pv prog (oNil (.pointer (some ⟨bk, 0, none⟩))) w fun t_118 w =>
        pvv prog (Instr.indexAt 119 t_118 (.int .i64 i)) w fun t_119 w =>
        pvv prog (Instr.indexAt 119 (.pointer (some ⟨b3, 0, none⟩)) (.int .i64 i)) w fun t_120 w =>
        bindS (vN (Instr.loadAt 74 t_113)) fun m_122 => ldv prog (Instr.loadAt 74 t_113) w fun t_121 w =>
        pvv prog (binOp .add 74 t_121 t_112) w fun t_123 w =>
        bindS (vN (Instr.loadAt 74 t_114)) fun m_125 => ldv prog (Instr.loadAt 74 t_114) w fun t_124 w =>
        bindS (vN (Instr.loadAt 74 t_115)) fun m_127 => ldv prog (Instr.loadAt 74 t_115) w fun t_126 w =>
        bindS (vN (Instr.loadAt 74 t_116)) fun m_129 => ldv prog (Instr.loadAt 74 t_116) w fun t_128 w =>
        bindS (vN (Instr.loadAt 74 t_117)) fun m_131 => ldv prog (Instr.loadAt 74 t_117) w fun t_130 w =>
        pvv prog (binOp .xor 74 t_128 t_130) w fun t_132 w =>
        pvv prog (binOp .and 74 t_126 t_132) w fun t_133 w =>
        pvv prog (binOp .xor 74 t_124 t_133) w fun t_134 w =>
        pvv prog (binOp .add 74 t_123 t_134) w fun t_135 w =>
        bindS (vN (Instr.loadAt 74 t_119)) fun m_137 => ldv prog (Instr.loadAt 74 t_119) w fun t_136 w =>
        pvv prog (binOp .add 74 t_135 t_136) w fun t_138 w =>
        bindS (vN (Instr.loadAt 74 t_120)) fun m_140 => ldv prog (Instr.loadAt 74 t_120) w fun t_139 w =>
        pvv prog (binOp .add 74 t_138 t_139) w fun t_141 w =>
        dr w fun w =>
        pvv prog (Instr.indexAt 76 (.pointer (some ⟨bq, 0, none⟩)) (.int .i64 0)) w fun t_142 w =>
        pvv prog (Instr.indexAt 76 (.pointer (some ⟨bq, 0, none⟩)) (.int .i64 0)) w fun t_143 w =>
        pvv prog (Instr.indexAt 76 (.pointer (some ⟨bq, 0, none⟩)) (.int .i64 0)) w fun t_144 w =>
        bindS (vN (Instr.loadAt 74 t_142)) fun m_146 => ldv prog (Instr.loadAt 74 t_142) w fun t_145 w =>
        bindS (vN (Instr.loadAt 74 t_143)) fun m_148 => ldv prog (Instr.loadAt 74 t_143) w fun t_147 w =>
        bindS (vN (Instr.loadAt 74 t_144)) fun m_150 => ldv prog (Instr.loadAt 74 t_144) w fun t_149 w =>
        Calls prog 49 #[t_145, (.int .i64 (-2))] w (Ret fun t_151 w => stay prog none m_150 t_149 w <| stay prog none m_148 t_147 w <| 
        Calls prog 49 #[t_147, (.int .i64 (-13))] w (Ret fun t_152 w => stay prog none m_150 t_149 w <| stay prog none m_146 t_145 w <| 
        pvv prog (binOp .xor 74 t_151 t_152) w fun t_153 w =>
        Calls prog 49 #[t_149, (.int .i64 (-22))] w (Ret fun t_154 w => stay prog none m_148 t_147 w <| stay prog none m_146 t_145 w <| 
        pvv prog (binOp .xor 74 t_153 t_154) w fun t_155 w =>
        pvv prog (Instr.indexAt 76 (.pointer (some ⟨bq, 0, none⟩)) (.int .i64 0)) w fun t_156 w =>
        ldv prog (Instr.loadAt 74 t_156) w fun t_157 w =>
        pvv prog (Instr.indexAt 76 (.pointer (some ⟨bq, 0, none⟩)) (.int .i64 1)) w fun t_158 w =>
        ldv prog (Instr.loadAt 74 t_158) w fun t_159 w =>
        pvv prog (binOp .and 74 t_157 t_159) w fun t_160 w =>
        pvv prog (Instr.indexAt 76 (.pointer (some ⟨bq, 0, none⟩)) (.int .i64 2)) w fun t_161 w =>
        ldv prog (Instr.loadAt 74 t_161) w fun t_162 w =>
        pvv prog (Instr.indexAt 76 (.pointer (some ⟨bq, 0, none⟩)) (.int .i64 0)) w fun t_163 w =>
        ldv prog (Instr.loadAt 74 t_163) w fun t_164 w =>
        pvv prog (Instr.indexAt 76 (.pointer (some ⟨bq, 0, none⟩)) (.int .i64 1)) w fun t_165 w =>
        ldv prog (Instr.loadAt 74 t_165) w fun t_166 w =>
        pvv prog (binOp .or 74 t_164 t_166) w fun t_167 w =>
        pvv prog (binOp .and 74 t_162 t_167) w fun t_168 w =>
        pvv prog (binOp .or 74 t_160 t_168) w fun t_169 w =>
        pvv prog (binOp .add 74 t_155 t_169) w fun t_170 w =>
        dr w fun w =>
        pvv prog (Instr.sliceAt 76 (.pointer (some ⟨bq, 0, none⟩)) (some (.int .i64 1)) none none) w fun t_171 w =>
        pvv prog (Instr.sliceAt 76 (.pointer (some ⟨bq, 0, none⟩)) none (some (.int .i64 7)) none) w fun t_172 w =>
        ef prog (oBi .copy #[121, 121] 3 #[false, false] #[t_171, t_172]) w fun t_173 w =>
        pvv prog (Instr.indexAt 76 (.pointer (some ⟨bq, 0, none⟩)) (.int .i64 4)) w fun t_174 w =>
        ldv prog (Instr.loadAt 74 t_174) w fun t_175 w =>
        pvv prog (binOp .add 74 t_175 t_141) w fun t_176 w =>
        pvv prog (Instr.indexAt 76 (.pointer (some ⟨bq, 0, none⟩)) (.int .i64 4)) w fun t_177 w =>
        efu prog (Instr.storeAt 74 t_177 t_176) w fun u_178 w =>
        pvv prog (binOp .add 74 t_141 t_170) w fun t_179 w =>
        pvv prog (Instr.indexAt 76 (.pointer (some ⟨bq, 0, none⟩)) (.int .i64 0)) w fun t_180 w =>
        efu prog (Instr.storeAt 74 t_180 t_179) w fun u_181 w =>
        pvv prog (binOp .add 3 (.int .i64 i) (.int .i64 1)) w fun t_182 w =>
        k [t_182] w)))))) := by
  have ix : ∀ {j : Nat}, j < 64 → ∀ {b : Nat} {w : World} {K : Value → World → Prop}, pvv prog (Instr.indexAt 119 (.pointer (some ⟨b, 0, none⟩)) (.int .i64 (j : Int))) w K = K (.pointer (some ⟨b, j, none⟩)) w := fun {j} hj {b w K} => by
    rw [o_indexA (by omega) (by omega)]; simp
  have i0 : ∀ {w : World} {K : Value → World → Prop}, pvv prog (Instr.indexAt 76 (.pointer (some ⟨bq, 0, none⟩)) (.int .i64 0)) w K = K (.pointer (some ⟨bq, 0, none⟩)) w := o_indexA (by decide) (by decide)
  have i1 : ∀ {w : World} {K : Value → World → Prop}, pvv prog (Instr.indexAt 76 (.pointer (some ⟨bq, 0, none⟩)) (.int .i64 1)) w K = K (.pointer (some ⟨bq, 1, none⟩)) w := o_indexA (by decide) (by decide)
  have i2 : ∀ {w : World} {K : Value → World → Prop}, pvv prog (Instr.indexAt 76 (.pointer (some ⟨bq, 0, none⟩)) (.int .i64 2)) w K = K (.pointer (some ⟨bq, 2, none⟩)) w := o_indexA (by decide) (by decide)
  have i4 : ∀ {w : World} {K : Value → World → Prop}, pvv prog (Instr.indexAt 76 (.pointer (some ⟨bq, 0, none⟩)) (.int .i64 4)) w K = K (.pointer (some ⟨bq, 4, none⟩)) w := o_indexA (by decide) (by decide)
  have i5 : ∀ {w : World} {K : Value → World → Prop}, pvv prog (Instr.indexAt 76 (.pointer (some ⟨bq, 0, none⟩)) (.int .i64 5)) w K = K (.pointer (some ⟨bq, 5, none⟩)) w := o_indexA (by decide) (by decide)
  have i6 : ∀ {w : World} {K : Value → World → Prop}, pvv prog (Instr.indexAt 76 (.pointer (some ⟨bq, 0, none⟩)) (.int .i64 6)) w K = K (.pointer (some ⟨bq, 6, none⟩)) w := o_indexA (by decide) (by decide)
  have i7 : ∀ {w : World} {K : Value → World → Prop}, pvv prog (Instr.indexAt 76 (.pointer (some ⟨bq, 0, none⟩)) (.int .i64 7)) w K = K (.pointer (some ⟨bq, 7, none⟩)) w := o_indexA (by decide) (by decide)
  have h : sat E w (pts bq (.cells [wv v.a, wv v.b, wv v.c, wv v.d, wv v.e, wv v.f, wv v.g, wv v.h].toArray e3 (0, 0)) * R) := h.own bq
  refine dr_sl h fun w h _ => ?_
  simp only [↓o_nil, ↓o_field, ↓o_add, ↓o_sub, ↓o_mul, ↓o_lss, ↓o_leq, ↓o_gtr, ↓o_geq, ↓o_not, ↓o_pick, ↓o_eqInt, ↓o_neInt, ↓o_eqBool, ↓o_neBool, ↓o_eqPtr, ↓o_nePtr, ↓o_eqPtr', ↓o_eqSl, ↓o_neSl, ↓o_eqStr, ↓o_neStr, ↓o_len, ↓o_lenS, ↓o_min, ↓o_max, ↓o_extract, ↓o_convInt, ↓cd_true, ↓cd_false, ↓gate_tt, ↓gate_ff, ↓gate_tf, ↓gate_ft, ↓gate_undef, ↓o_bind, ↓stay_v, ↓pop_cons, ↓fin_nil, Option.isNone_none, Option.isNone_some, Bool.not_true, Bool.not_false, Nat.zero_add, decide_true, decide_false, if_true, if_false, Bool.false_eq_true, ↓reduceIte, i4]
  refine ld_at h (ld_at h (ld_at h ?_))
  refine Rot_spec _ (n := 6) (by decide) (by decide) ?_
  try simp only [stay_v]
  refine st_at h (st_at h ?_)
  refine Rot_spec _ (n := 11) (by decide) (by decide) ?_
  try simp only [stay_v]
  refine st_at h (st_at h ?_)
  rw [o_xorW]
  refine Rot_spec _ (n := 25) (by decide) (by decide) ?_
  try simp only [stay_v]
  refine st_at h (st_at h ?_)
  rw [o_xorW]
  refine dr_sl h fun w h _ => ?_
  simp only [↓o_nil, ↓o_field, ↓o_add, ↓o_sub, ↓o_mul, ↓o_lss, ↓o_leq, ↓o_gtr, ↓o_geq, ↓o_not, ↓o_pick, ↓o_eqInt, ↓o_neInt, ↓o_eqBool, ↓o_neBool, ↓o_eqPtr, ↓o_nePtr, ↓o_eqPtr', ↓o_eqSl, ↓o_neSl, ↓o_eqStr, ↓o_neStr, ↓o_len, ↓o_lenS, ↓o_min, ↓o_max, ↓o_extract, ↓o_convInt, ↓cd_true, ↓cd_false, ↓gate_tt, ↓gate_ff, ↓gate_tf, ↓gate_ft, ↓gate_undef, ↓o_bind, ↓stay_v, ↓pop_cons, ↓fin_nil, Option.isNone_none, Option.isNone_some, Bool.not_true, Bool.not_false, Nat.zero_add, decide_true, decide_false, if_true, if_false, Bool.false_eq_true, ↓reduceIte, i0, i1, i2, i4, i5, i6, i7, ix hi]
  refine ld_at h ?_
  rw [o_addW]
  refine ld_at h (ld_at h (ld_at h (ld_at h ?_)))
  rw [o_xorW, o_andW, o_xorW, o_addW]
  refine ld_in (b := bk) h (getwv' (by omega)) ?_
  rw [o_addW]
  refine ld_in (b := b3) h (getwv' (by omega)) ?_
  rw [o_addW]
  refine dr_sl h fun w h _ => ?_
  try simp only [↓o_nil, ↓o_field, ↓o_add, ↓o_sub, ↓o_mul, ↓o_lss, ↓o_leq, ↓o_gtr, ↓o_geq, ↓o_not, ↓o_pick, ↓o_eqInt, ↓o_neInt, ↓o_eqBool, ↓o_neBool, ↓o_eqPtr, ↓o_nePtr, ↓o_eqPtr', ↓o_eqSl, ↓o_neSl, ↓o_eqStr, ↓o_neStr, ↓o_len, ↓o_lenS, ↓o_min, ↓o_max, ↓o_extract, ↓o_convInt, ↓cd_true, ↓cd_false, ↓gate_tt, ↓gate_ff, ↓gate_tf, ↓gate_ft, ↓gate_undef, ↓o_bind, ↓stay_v, ↓pop_cons, ↓fin_nil, Option.isNone_none, Option.isNone_some, Bool.not_true, Bool.not_false, Nat.zero_add, decide_true, decide_false, if_true, if_false, Bool.false_eq_true, ↓reduceIte, i0, i1, i2, i4, i5, i6, i7]
  refine ld_at h (ld_at h (ld_at h ?_))
  refine Rot_spec _ (n := 2) (by decide) (by decide) ?_
  try simp only [stay_v]
  refine st_at h (st_at h ?_)
  refine Rot_spec _ (n := 13) (by decide) (by decide) ?_
  try simp only [stay_v]
  refine st_at h (st_at h ?_)
  rw [o_xorW]
  refine Rot_spec _ (n := 22) (by decide) (by decide) ?_
  try simp only [stay_v]
  refine st_at h (st_at h ?_)
  rw [o_xorW]
  try simp only [↓o_nil, ↓o_field, ↓o_add, ↓o_sub, ↓o_mul, ↓o_lss, ↓o_leq, ↓o_gtr, ↓o_geq, ↓o_not, ↓o_pick, ↓o_eqInt, ↓o_neInt, ↓o_eqBool, ↓o_neBool, ↓o_eqPtr, ↓o_nePtr, ↓o_eqPtr', ↓o_eqSl, ↓o_neSl, ↓o_eqStr, ↓o_neStr, ↓o_len, ↓o_lenS, ↓o_min, ↓o_max, ↓o_extract, ↓o_convInt, ↓cd_true, ↓cd_false, ↓gate_tt, ↓gate_ff, ↓gate_tf, ↓gate_ft, ↓gate_undef, ↓o_bind, ↓stay_v, ↓pop_cons, ↓fin_nil, Option.isNone_none, Option.isNone_some, Bool.not_true, Bool.not_false, Nat.zero_add, decide_true, decide_false, if_true, if_false, Bool.false_eq_true, ↓reduceIte, i0, i1, i2, i4, i5, i6, i7]
  refine ld_at h ?_
  refine ld_at h ?_
  rw [o_andW]
  refine ld_at h (ld_at h (ld_at h ?_))
  rw [o_orW, o_andW, o_orW, o_addW]
  refine dr_sl h fun w h _ => ?_
  rw [o_sliceA_l (by decide) (by decide), o_sliceA_h (by decide) (by decide)]
  refine copy_in (b := bq) (k' := 7) h (news := [wv v.a, wv v.b, wv v.c, wv v.d, wv v.e, wv v.f, wv v.g]) rfl (.inr ⟨bq, 0, _, _, _, rfl, Has.get h, fun j u hj => ?_⟩) (by simp [wv, Value.oneCell']) (by simp) fun w h => ?_
  · have := (List.getElem?_eq_some_iff.1 hj).1
    have hj7 : j < 7 := this
    rw [Nat.zero_add]
    match j, hj7 with
    | 0, _ => exact hj
    | 1, _ => exact hj
    | 2, _ => exact hj
    | 3, _ => exact hj
    | 4, _ => exact hj
    | 5, _ => exact hj
    | 6, _ => exact hj
  have h : sat E w (pts bq (.cells [wv v.a, wv v.a, wv v.b, wv v.c, wv v.d, wv v.e, wv v.f, wv v.g].toArray e3 (0, 0)) * R) := h
  try simp only [↓o_nil, ↓o_field, ↓o_add, ↓o_sub, ↓o_mul, ↓o_lss, ↓o_leq, ↓o_gtr, ↓o_geq, ↓o_not, ↓o_pick, ↓o_eqInt, ↓o_neInt, ↓o_eqBool, ↓o_neBool, ↓o_eqPtr, ↓o_nePtr, ↓o_eqPtr', ↓o_eqSl, ↓o_neSl, ↓o_eqStr, ↓o_neStr, ↓o_len, ↓o_lenS, ↓o_min, ↓o_max, ↓o_extract, ↓o_convInt, ↓cd_true, ↓cd_false, ↓gate_tt, ↓gate_ff, ↓gate_tf, ↓gate_ft, ↓gate_undef, ↓o_bind, ↓stay_v, ↓pop_cons, ↓fin_nil, Option.isNone_none, Option.isNone_some, Bool.not_true, Bool.not_false, Nat.zero_add, decide_true, decide_false, if_true, if_false, Bool.false_eq_true, ↓reduceIte, i0, i1, i2, i4, i5, i6, i7]
  refine ld_at h ?_
  rw [o_addW]
  try rw [i4]
  refine store_at h rfl (by simp) fun w h => ?_
  rw [o_addW]
  try rw [i0]
  refine store_at h rfl (by simp) fun w h => ?_
  try rw [o_add]
  rw [i64_of (by omega) (by omega)]
  exact hk _ h
end Go.Proofs.YtmnaalpjhkkglaaGreatDoor

/-
  mix, whole.
-/
set_option linter.all false
set_option maxRecDepth 10000
namespace Go.Proofs.YtmnaalpjhkkglaaGreatDoor
open Go Hold
variable {E : World0} {w : World} {H R : HP} {K : Value → World → Prop}
theorem take_drop_set {α : Type} {x y : List α} {n i : Nat} {v : α} (hx : x.length = n) (hy : y.length = n) (hi : i < n) (hv : x[i]? = some v) : (x.take i ++ y.drop i).set i v = x.take (i + 1) ++ y.drop (i + 1) := by
  apply List.ext_getElem?
  intro j
  rw [List.getElem?_set, List.getElem?_append, List.getElem?_append]
  simp only [List.length_append, List.length_take, List.length_drop, List.getElem?_take, List.getElem?_drop, hx, hy]
  by_cases h1 : i = j
  · subst h1
    have : i < min i n + (n - i) := by omega
    have h3 : i < min (i + 1) n := by omega
    simp [this, h3, hv]
  · rw [if_neg h1]
    by_cases h2 : j < i
    · have h3 : j < min i n := by omega
      have h4 : j < min (i + 1) n := by omega
      have h5 : j < i + 1 := by omega
      simp [h3, h4, h2, h5]
    · have h3 : ¬ j < min i n := by omega
      have h4 : ¬ j < min (i + 1) n := by omega
      rw [if_neg h3, if_neg h4]
      congr 1; omega
theorem take_drop_get {α : Type} {x y : List α} {n i : Nat} (hx : x.length = n) (hi : i < n) : (x.take i ++ y.drop i)[i]? = y[i]? := by
  rw [List.getElem?_append_right (by simp; omega)]
  simp only [List.length_take, List.getElem?_drop]
  congr 1; omega
theorem wv_one (l : List UInt32) : ∀ x ∈ l.map wv, x.oneCell' = true := by
  intro x hx
  obtain ⟨b, _, rfl⟩ := List.mem_map.1 hx
  rfl
theorem St.len (v : St) : v.list.length = 8 := rfl
theorem St.add_get (x y : St) : ∀ {i : Nat}, i < 8 → (x.add y).list.getD i 0 = x.list.getD i 0 + y.list.getD i 0
  | 0, _ => rfl
  | 1, _ => rfl
  | 2, _ => rfl
  | 3, _ => rfl
  | 4, _ => rfl
  | 5, _ => rfl
  | 6, _ => rfl
  | 7, _ => rfl
  | n + 8, h => by omega
theorem mix_spec (h : sat E w H) {st : St} {bk : Nat} {ek : TypeId} {frk : Nat × Nat} {ks : List UInt32} (hks : ks.length = 64) [hbk : Has H bk (.cells (ks.map wv).toArray ek frk)] {vb : Value} {b : List UInt8} (hb : Rds H vb b.length (b.map bv)) (hbl : 64 ≤ b.length)
    (hK : ∀ w, sat E w H → K (.agg ((mix ks st b).list.map wv).toArray) w) :
    Calls prog 25 #[.agg (st.list.map wv).toArray, .pointer (some ⟨bk, 0, none⟩), vb] w (Ret K) := by
  obtain ⟨bb, o, c, rfl, hc, hb⟩ := hb.opened h (by simp; omega)
  refine c25 ?_
  unfold B25
  refine box_sl h fun b1 w h => ?_
  refine alloc_sl h fun b2 w h => ?_
  refine alloc_sl h fun b3 w h => ?_
  have h : sat E w (pts b3 (.cells (List.replicate 64 (wv 0)).toArray 119 (0, 0)) * (pts b2 (.cells (List.replicate 8 (wv 0)).toArray 76 (0, 0)) * (pts b1 (.cells (st.list.map wv).toArray 76 (0, 0)) * H))) := h
  refine lp_nat (fun m σ w => ∃ i : Nat, σ = [.int .i64 i] ∧ m = 64 - i ∧ i ≤ 64 ∧
    sat E w (pts b3 (.cells ((sched b i).map wv ++ List.replicate (64 - i) (wv 0)).toArray 119 (0, 0)) * (pts b2 (.cells (List.replicate 8 (wv 0)).toArray 76 (0, 0)) * (pts b1 (.cells (st.list.map wv).toArray 76 (0, 0)) * H)))) 64 ⟨0, rfl, rfl, by omega, h⟩ ?_
  rintro m σ w again ⟨i, rfl, rfl, hi, h⟩ hag
  have hb' : Rds (pts b3 (.cells ((sched b i).map wv ++ List.replicate (64 - i) (wv 0)).toArray 119 (0, 0)) * (pts b2 (.cells (List.replicate 8 (wv 0)).toArray 76 (0, 0)) * (pts b1 (.cells (st.list.map wv).toArray 76 (0, 0)) * H))) _ _ _ := hb.right.right.right
  rw [pop_cons, fin_nil, o_lss]
  refine cd_dec (fun hlt => ?_) (fun hge => ?_)
  · have hlt : i < 64 := by omega
    refine jn_cut (fun σ w => σ = [] ∧ sat E w (pts b3 (.cells ((sched b (i + 1)).map wv ++ List.replicate (64 - (i + 1)) (wv 0)).toArray 119 (0, 0)) * (pts b2 (.cells (List.replicate 8 (wv 0)).toArray 76 (0, 0)) * (pts b1 (.cells (st.list.map wv).toArray 76 (0, 0)) * H)))) ?_ ?_
    · intro kk hk
      rw [o_lss]
      by_cases h16 : (i : Int) < 16
      · rw [decide_eq_true h16, cd_true]
        refine mix_early h hlt h16 (sched_length b i) hb' hbl fun w h => hk _ _ ⟨rfl, ?_⟩
        have h16' : i < 16 := by omega
        have e : sched b (i + 1) = sched b i ++ [word b i] := by simp [sched, h16']
        rw [e]; exact h
      · rw [decide_eq_false h16, cd_false]
        refine mix_late h hlt h16 (sched_length b i) fun w h => hk _ _ ⟨rfl, ?_⟩
        have h16' : ¬ i < 16 := by omega
        have e : sched b (i + 1) = sched b i ++ [wNext (sched b i) i] := by simp [sched, h16']
        rw [e]; exact h
    · rintro σ w ⟨rfl, h⟩
      simp only [↓o_nil, ↓o_field, ↓o_add, ↓o_sub, ↓o_mul, ↓o_lss, ↓o_leq, ↓o_gtr, ↓o_geq, ↓o_not, ↓o_pick, ↓o_eqInt, ↓o_neInt, ↓o_eqBool, ↓o_neBool, ↓o_eqPtr, ↓o_nePtr, ↓o_eqPtr', ↓o_eqSl, ↓o_neSl, ↓o_eqStr, ↓o_neStr, ↓o_len, ↓o_lenS, ↓o_min, ↓o_max, ↓o_extract, ↓o_convInt, ↓cd_true, ↓cd_false, ↓gate_tt, ↓gate_ff, ↓gate_tf, ↓gate_ft, ↓gate_undef, ↓o_bind, ↓stay_v, ↓pop_cons, ↓fin_nil, Option.isNone_none, Option.isNone_some, Bool.not_true, Bool.not_false, Nat.zero_add, decide_true, decide_false, if_true, if_false, Bool.false_eq_true, ↓reduceIte]
      rw [i64_of (by omega) (by omega)]
      exact hag _ _ _ (by omega) ⟨i + 1, rfl, rfl, by omega, h⟩
  · have hi64 : i = 64 := by omega
    subst hi64
    have h : sat E w (pts b3 (.cells ((sched b 64).map wv).toArray 119 (0, 0)) * (pts b2 (.cells (List.replicate 8 (wv 0)).toArray 76 (0, 0)) * (pts b1 (.cells (st.list.map wv).toArray 76 (0, 0)) * H))) := by
      simpa using h
    refine ld_agg h (by simp [St.len]) ?_
    refine alloc_sl h fun b4 w h => ?_
    have h : sat E w (pts b4 (.cells (List.replicate 8 (wv 0)).toArray 76 (0, 0)) * (pts b3 (.cells ((sched b 64).map wv).toArray 119 (0, 0)) * (pts b2 (.cells (List.replicate 8 (wv 0)).toArray 76 (0, 0)) * (pts b1 (.cells (st.list.map wv).toArray 76 (0, 0)) * H)))) := h
    refine storeN_sl (b := b4) h (aggC_76).size (vs := st.list.map wv) (by simp [Value.cells]) (by simp [St.len]) (wv_one _) (by simp) fun w h => ?_
    have h : sat E w (pts b4 (.cells (st.list.map wv).toArray 76 (0, 0)) * (pts b3 (.cells ((sched b 64).map wv).toArray 119 (0, 0)) * (pts b2 (.cells (List.replicate 8 (wv 0)).toArray 76 (0, 0)) * (pts b1 (.cells (st.list.map wv).toArray 76 (0, 0)) * H)))) := h
    refine lp_nat (fun m σ w => ∃ i : Nat, σ = [.int .i64 i] ∧ m = 64 - i ∧ i ≤ 64 ∧
      sat E w (pts b4 (.cells ((Go.Proofs.YtmnaalpjhkkglaaGreatDoor.rounds ks (sched b 64) st i).list.map wv).toArray 76 (0, 0)) * (pts b3 (.cells ((sched b 64).map wv).toArray 119 (0, 0)) * (pts b2 (.cells (List.replicate 8 (wv 0)).toArray 76 (0, 0)) * (pts b1 (.cells (st.list.map wv).toArray 76 (0, 0)) * H))))) 64 ⟨0, rfl, rfl, by omega, h⟩ ?_
    rintro m σ w again ⟨i, rfl, rfl, hi, h⟩ hag
    rw [pop_cons, fin_nil, o_lss]
    refine cd_dec (fun hlt => ?_) (fun hge => ?_)
    · refine mix_round h (by omega) hks (sched_length b 64) fun w h => ?_
      exact hag _ _ _ (by omega) ⟨i + 1, rfl, rfl, by omega, h⟩
    · have hi64 : i = 64 := by omega
      subst hi64
      refine lp_nat (fun m σ w => ∃ i : Nat, σ = [.int .i64 i] ∧ m = 8 - i ∧ i ≤ 8 ∧
        sat E w (pts b1 (.cells (((mix ks st b).list.take i ++ st.list.drop i).map wv).toArray 76 (0, 0)) * (pts b4 (.cells ((Go.Proofs.YtmnaalpjhkkglaaGreatDoor.rounds ks (sched b 64) st 64).list.map wv).toArray 76 (0, 0)) * (pts b3 (.cells ((sched b 64).map wv).toArray 119 (0, 0)) * (pts b2 (.cells (List.replicate 8 (wv 0)).toArray 76 (0, 0)) * H))))) 8 ⟨0, rfl, rfl, by omega, ?_⟩ ?_
      · have := h.own b1
        exact this
      rintro m σ w again ⟨i, rfl, rfl, hi, h⟩ hag
      rw [pop_cons, fin_nil, o_lss]
      refine cd_dec (fun hlt => ?_) (fun hge => ?_)
      · have hlt : i < 8 := by omega
        have ix : ∀ {b : Nat} {w : World} {K : Value → World → Prop}, pvv prog (Instr.indexAt 76 (.pointer (some ⟨b, 0, none⟩)) (.int .i64 (i : Int))) w K = K (.pointer (some ⟨b, i, none⟩)) w := fun {b w K} => by
          rw [o_indexA (by omega) (by omega)]; simp
        refine dr_sl h fun w h _ => ?_
        simp only [↓o_nil, ↓o_field, ↓o_add, ↓o_sub, ↓o_mul, ↓o_lss, ↓o_leq, ↓o_gtr, ↓o_geq, ↓o_not, ↓o_pick, ↓o_eqInt, ↓o_neInt, ↓o_eqBool, ↓o_neBool, ↓o_eqPtr, ↓o_nePtr, ↓o_eqPtr', ↓o_eqSl, ↓o_neSl, ↓o_eqStr, ↓o_neStr, ↓o_len, ↓o_lenS, ↓o_min, ↓o_max, ↓o_extract, ↓o_convInt, ↓cd_true, ↓cd_false, ↓gate_tt, ↓gate_ff, ↓gate_tf, ↓gate_ft, ↓gate_undef, ↓o_bind, ↓stay_v, ↓pop_cons, ↓fin_nil, Option.isNone_none, Option.isNone_some, Bool.not_true, Bool.not_false, Nat.zero_add, decide_true, decide_false, if_true, if_false, Bool.false_eq_true, ↓reduceIte, ix]
        have g1 : (((mix ks st b).list.take i ++ st.list.drop i).map wv)[i]? = some (wv (st.list.getD i 0)) := by
          rw [List.getElem?_map, take_drop_get (St.len _) hlt, ← List.getElem?_map]
          exact getwv' (by rw [St.len]; exact hlt)
        refine ld_in (b := b1) h g1 ?_
        refine ld_in (b := b4) h (getwv' (by rw [St.len]; exact hlt)) ?_
        rw [o_addW]
        try rw [ix]
        refine store_sl (b := b1) h rfl (by simp [St.len]; omega) fun w h => ?_
        try rw [o_add]
        rw [i64_of (by omega) (by omega)]
        refine hag _ _ _ (by omega) ⟨i + 1, rfl, rfl, by omega, ?_⟩
        have e : (mix ks st b).list.getD i 0 = st.list.getD i 0 + (Go.Proofs.YtmnaalpjhkkglaaGreatDoor.rounds ks (sched b 64) st 64).list.getD i 0 := St.add_get _ _ hlt
        have e2 : (((mix ks st b).list.take i ++ st.list.drop i).map wv).set i (wv (st.list.getD i 0 + (Go.Proofs.YtmnaalpjhkkglaaGreatDoor.rounds ks (sched b 64) st 64).list.getD i 0)) = ((mix ks st b).list.take (i + 1) ++ st.list.drop (i + 1)).map wv := by
          rw [← List.map_set]
          congr 1
          refine take_drop_set (St.len _) (St.len _) hlt ?_
          rw [← e]
          have hl : i < (mix ks st b).list.length := by rw [St.len]; exact hlt
          simp [List.getD_eq_getElem?_getD, hl]
        rw [e2] at h
        exact h
      · have hi8 : i = 8 := by omega
        subst hi8
        have e : (mix ks st b).list.take 8 ++ st.list.drop 8 = (mix ks st b).list := rfl
        rw [e] at h
        refine ld_agg (b := b1) h (by simp [St.len]) ?_
        refine storeN_sl (b := b2) h (aggC_76).size (vs := (mix ks st b).list.map wv) (by simp [Value.cells]) (by simp [St.len]) (wv_one _) (by simp) fun w h => ?_
        have h : sat E w (pts b2 (.cells ((mix ks st b).list.map wv).toArray 76 (0, 0)) * (pts b1 (.cells ((mix ks st b).list.map wv).toArray 76 (0, 0)) * (pts b4 (.cells ((Go.Proofs.YtmnaalpjhkkglaaGreatDoor.rounds ks (sched b 64) st 64).list.map wv).toArray 76 (0, 0)) * (pts b3 (.cells ((sched b 64).map wv).toArray 119 (0, 0)) * H)))) := h
        exact res_agg (b := b2) h (by simp [St.len]) (hK _ h.drop.drop.drop.drop)
end Go.Proofs.YtmnaalpjhkkglaaGreatDoor

/-
  SHA-256 of bytes, as plain functions, and what they say of each other.
-/
set_option linter.all false
set_option maxRecDepth 10000
namespace Go.Proofs.YtmnaalpjhkkglaaGreatDoor
open Go Hold
def K0 : List UInt32 := [1116352408, 1899447441, 3049323471, 3921009573, 961987163, 1508970993, 2453635748, 2870763221, 3624381080, 310598401, 607225278, 1426881987, 1925078388, 2162078206, 2614888103, 3248222580, 3835390401, 4022224774, 264347078, 604807628, 770255983, 1249150122, 1555081692, 1996064986, 2554220882, 2821834349, 2952996808, 3210313671, 3336571891, 3584528711, 113926993, 338241895, 666307205, 773529912, 1294757372, 1396182291, 1695183700, 1986661051, 2177026350, 2456956037, 2730485921, 2820302411, 3259730800, 3345764771, 3516065817, 3600352804, 4094571909, 275423344, 430227734, 506948616, 659060556, 883997877, 958139571, 1322822218, 1537002063, 1747873779, 1955562222, 2024104815, 2227730452, 2361852424, 2428436474, 2756734187, 3204031479, 3329325298]
def st0 : St := ⟨1779033703, 3144134277, 1013904242, 2773480762, 1359893119, 2600822924, 528734635, 1541459225⟩
def fold (st : St) (m : List UInt8) : Nat → St
  | 0 => st
  | n + 1 => mix K0 (fold st m n) (m.drop (64 * n))
def lenBytes (n : Nat) : List UInt8 := (List.range 8).map fun i => UInt8.ofNat (n * 8 % 18446744073709551616 / 2 ^ (56 - 8 * i))
def padded (b : List UInt8) : List UInt8 := b ++ [128] ++ List.replicate ((119 - b.length % 64) % 64) 0 ++ lenBytes b.length
def digest4 (w : UInt32) : List UInt8 := [(w >>> UInt32.ofNat 24).toUInt8, (w >>> UInt32.ofNat 16).toUInt8, (w >>> UInt32.ofNat 8).toUInt8, w.toUInt8]
def digest (st : St) : List UInt8 := st.list.flatMap digest4
def sha (b : List UInt8) : List UInt8 := digest (fold st0 (padded b) ((padded b).length / 64))
theorem getD_take {l : List UInt8} {n i : Nat} (h : i < n) : (l.take n).getD i 0 = l.getD i 0 := by
  simp [List.getD_eq_getElem?_getD, List.getElem?_take, h]
theorem word_take {b : List UInt8} {i : Nat} (h : i < 16) : word (b.take 64) i = word b i := by
  unfold word
  rw [getD_take (by omega), getD_take (by omega), getD_take (by omega), getD_take (by omega)]
theorem sched_take {b : List UInt8} : ∀ n, sched (b.take 64) n = sched b n
  | 0 => rfl
  | n + 1 => by
    simp only [sched, sched_take n]
    by_cases h : n < 16
    · rw [if_pos h, if_pos h, word_take h]
    · rw [if_neg h, if_neg h]
theorem mix_take (ks : List UInt32) (st : St) (b : List UInt8) : mix ks st b = mix ks st (b.take 64) := by
  unfold mix; rw [sched_take]
theorem fold_congr {st : St} {a b : List UInt8} : ∀ {n : Nat}, a.take (64 * n) = b.take (64 * n) → fold st a n = fold st b n
  | 0, _ => rfl
  | n + 1, h => by
    have h1 : a.take (64 * n) = b.take (64 * n) := by
      have := congrArg (List.take (64 * n)) h
      rw [List.take_take, List.take_take] at this
      have e : min (64 * n) (64 * (n + 1)) = 64 * n := by omega
      rwa [e] at this
    have h2 : (a.drop (64 * n)).take 64 = (b.drop (64 * n)).take 64 := by
      have := congrArg (List.drop (64 * n)) h
      rw [List.drop_take, List.drop_take] at this
      have e : 64 * (n + 1) - 64 * n = 64 := by omega
      rwa [e] at this
    simp only [fold]
    rw [fold_congr h1, mix_take, h2, ← mix_take]
theorem fold_add (st : St) (m : List UInt8) (a : Nat) : ∀ k, fold (fold st m a) (m.drop (64 * a)) k = fold st m (a + k)
  | 0 => rfl
  | k + 1 => by
    rw [← Nat.add_assoc]
    simp only [fold]
    rw [fold_add st m a k, List.drop_drop, Nat.mul_add]
theorem lenBytes_length (n : Nat) : (lenBytes n).length = 8 := rfl
theorem padded_length (b : List UInt8) : (padded b).length % 64 = 0 := by
  simp [padded, lenBytes_length]; omega
theorem digest_length (st : St) : (digest st).length = 32 := rfl
theorem sha_length (b : List UInt8) : (sha b).length = 32 := digest_length _
end Go.Proofs.YtmnaalpjhkkglaaGreatDoor

/-
  Sum: the SHA-256 of bytes.
-/
set_option linter.all false
set_option maxRecDepth 10000
namespace Go.Proofs.YtmnaalpjhkkglaaGreatDoor
open Go Hold
variable {E : World0} {w : World} {H R : HP} {K : Value → World → Prop}
theorem K0_length : K0.length = 64 := rfl
theorem rounds_spec (h : sat E w H) (k : ∀ bk w', sat E w' (pts bk (.cells (K0.map wv).toArray 119 (0, 0)) * H) → K (.pointer (some ⟨bk, 0, none⟩)) w') : Calls prog 24 #[] w (Ret K) := by
  refine c24 ?_
  unfold B24
  refine pvv_of (v := .agg (K0.map wv).toArray) (fun w => by kernel_rfl) ?_
  exact box_sl h fun b1 w h => k _ _ h
theorem Rds.cutB {H : HP} {a : Option Addr} {n c : Nat} {l : List UInt8} (hb : Rds H (.slice a n c) n (l.map bv)) (hl : l.length = n) {lo : Nat} (h1 : lo ≤ n) :
    Rds H (.slice (cutA a c lo 1) (n - lo) (c - lo)) (n - lo) ((l.drop lo).map bv) := fun E w hs => by
  have := (hb E w hs).cutl (by simpa using hl) h1
  rwa [← List.map_drop] at this
theorem getIdx {l : List Value} {i : Nat} {v : Value} (h : l[i]? = some v) : l[(i : Int).toNat]? = some v := h
theorem digest_set : ∀ (st : St) (i : Nat) (x : UInt32), i < 8 → st.list[i]? = some x →
    (((((((digest st).map bv).take (4 * i) ++ List.replicate (32 - 4 * i) (bv 0)).set (4 * i) (bv (x >>> UInt32.ofNat 24).toUInt8)).set (4 * i + 1) (bv (x >>> UInt32.ofNat 16).toUInt8)).set (4 * i + 2) (bv (x >>> UInt32.ofNat 8).toUInt8)).set (4 * i + 3) (bv x.toUInt8)) = ((digest st).map bv).take (4 * (i + 1)) ++ List.replicate (32 - 4 * (i + 1)) (bv 0) := by
  intro st i x hi hx
  match i, hi with
  | 0, _ => cases hx; rfl
  | 1, _ => cases hx; rfl
  | 2, _ => cases hx; rfl
  | 3, _ => cases hx; rfl
  | 4, _ => cases hx; rfl
  | 5, _ => cases hx; rfl
  | 6, _ => cases hx; rfl
  | 7, _ => cases hx; rfl
  | n + 8, h => omega
theorem pad_take {b : List UInt8} {j : Nat} (h : 64 * j ≤ b.length) : (padded b).take (64 * j) = b.take (64 * j) := by
  unfold padded
  rw [List.append_assoc, List.append_assoc, List.take_append_of_le_length h]
theorem pad_drop {b : List UInt8} {j : Nat} (h : 64 * j ≤ b.length) : (padded b).drop (64 * j) = b.drop (64 * j) ++ [128] ++ List.replicate ((119 - b.length % 64) % 64) 0 ++ lenBytes b.length := by
  unfold padded
  rw [List.append_assoc, List.append_assoc, List.drop_append_of_le_length h, List.append_assoc, List.append_assoc]
theorem Sum_out {bh bo : Nat} {st : St} (h : sat E w (pts bh (.cells (st.list.map wv).toArray 76 (0, 0)) * (pts bo (.cells (List.replicate 32 (bv 0)).toArray 28 (0, 0)) * H)))
    (k : ∀ w', sat E w' H → K (.agg ((digest st).map bv).toArray) w') :
        ldv prog (Instr.loadAt 76 (.pointer (some ⟨bh, 0, none⟩))) w fun t_42 w =>
        lp (fun σ w again_44 => pop σ fun t_43 σ => fin σ <|
          pvv prog (binOp .lss 3 t_43 (.int .i64 8)) w fun t_45 w =>
          cd t_45 (
            pvv prog (Instr.index 76 t_42 t_43) w fun t_46 w =>
            pvv prog (binOp .mul 3 (.int .i64 4) t_43) w fun t_47 w =>
            pvv prog (binOp .mul 3 (.int .i64 4) t_43) w fun t_48 w =>
            pvv prog (binOp .add 3 t_48 (.int .i64 1)) w fun t_49 w =>
            pvv prog (binOp .mul 3 (.int .i64 4) t_43) w fun t_50 w =>
            pvv prog (binOp .add 3 t_50 (.int .i64 2)) w fun t_51 w =>
            pvv prog (binOp .mul 3 (.int .i64 4) t_43) w fun t_52 w =>
            pvv prog (binOp .add 3 t_52 (.int .i64 3)) w fun t_53 w =>
            pvv prog (binOp .shr 74 t_46 (.int .u64 24)) w fun t_54 w =>
            pvv prog (convert 74 5 t_54) w fun t_55 w =>
            pvv prog (binOp .shr 74 t_46 (.int .u64 16)) w fun t_56 w =>
            pvv prog (convert 74 5 t_56) w fun t_57 w =>
            pvv prog (binOp .shr 74 t_46 (.int .u64 8)) w fun t_58 w =>
            pvv prog (convert 74 5 t_58) w fun t_59 w =>
            pvv prog (convert 74 5 t_46) w fun t_60 w =>
            pvv prog (Instr.indexAt 28 (.pointer (some ⟨bo, 0, none⟩)) t_47) w fun t_61 w =>
            efu prog (Instr.storeAt 5 t_61 t_55) w fun u_62 w =>
            pvv prog (Instr.indexAt 28 (.pointer (some ⟨bo, 0, none⟩)) t_49) w fun t_63 w =>
            efu prog (Instr.storeAt 5 t_63 t_57) w fun u_64 w =>
            pvv prog (Instr.indexAt 28 (.pointer (some ⟨bo, 0, none⟩)) t_51) w fun t_65 w =>
            efu prog (Instr.storeAt 5 t_65 t_59) w fun u_66 w =>
            pvv prog (Instr.indexAt 28 (.pointer (some ⟨bo, 0, none⟩)) t_53) w fun t_67 w =>
            efu prog (Instr.storeAt 5 t_67 t_60) w fun u_68 w =>
            pvv prog (binOp .add 3 t_43 (.int .i64 1)) w fun t_69 w =>
            again_44 [t_69] w) <|
          ldv prog (Instr.loadAt 28 (.pointer (some ⟨bo, 0, none⟩))) w fun t_70 w =>
          efu prog (Instr.storeAt 28 (.pointer (some ⟨bo, 0, none⟩)) t_70) w fun u_71 w =>
          ∃ r_72, (do loadVar 28 (← asAddr (.pointer (some ⟨bo, 0, none⟩)))).run prog w = .ok r_72 w ∧ K r_72 w) [(.int .i64 0)] w := by
  refine ld_agg (b := bh) h (by simp [St.len]) ?_
  refine lp_nat (fun m σ w => ∃ i : Nat, σ = [.int .i64 i] ∧ m = 8 - i ∧ i ≤ 8 ∧
    sat E w (pts bo (.cells (((digest st).map bv).take (4 * i) ++ List.replicate (32 - 4 * i) (bv 0)).toArray 28 (0, 0)) * (pts bh (.cells (st.list.map wv).toArray 76 (0, 0)) * H))) 8 ⟨0, rfl, rfl, by omega, h.own bo⟩ ?_
  rintro m σ w again ⟨i, rfl, rfl, hi, h⟩ hag
  rw [pop_cons, fin_nil, o_lss]
  refine cd_dec (fun hlt => ?_) (fun hge => ?_)
  · have hlt : i < 8 := by omega
    have hx : st.list[i]? = some (st.list.getD i 0) := by
      have hl : i < st.list.length := by rw [St.len]; exact hlt
      simp [List.getD_eq_getElem?_getD, hl]
    rw [o_indexV (by simp [St.len]) (by omega) (getIdx (getwv' (by rw [St.len]; exact hlt)))]
    have e0 : IntKind.i64.wrap (4 * (i : Int)) = ((4 * i : Nat) : Int) := by rw [i64_of (by omega) (by omega)]; omega
    have e1 : IntKind.i64.wrap (((4 * i : Nat) : Int) + 1) = ((4 * i + 1 : Nat) : Int) := by rw [i64_of (by omega) (by omega)]; omega
    have e2 : IntKind.i64.wrap (((4 * i : Nat) : Int) + 2) = ((4 * i + 2 : Nat) : Int) := by rw [i64_of (by omega) (by omega)]; omega
    have e3 : IntKind.i64.wrap (((4 * i : Nat) : Int) + 3) = ((4 * i + 3 : Nat) : Int) := by rw [i64_of (by omega) (by omega)]; omega
    have ix : ∀ {j : Nat}, j < 32 → ∀ {w : World} {K : Value → World → Prop}, pvv prog (Instr.indexAt 28 (.pointer (some ⟨bo, 0, none⟩)) (.int .i64 (j : Int))) w K = K (.pointer (some ⟨bo, j, none⟩)) w := fun {j} hj {w K} => by
      rw [o_indexA (by omega) (by omega)]; simp
    simp only [e0, e1, e2, e3, ↓o_nil, ↓o_field, ↓o_add, ↓o_sub, ↓o_mul, ↓o_lss, ↓o_leq, ↓o_gtr, ↓o_geq, ↓o_not, ↓o_pick, ↓o_eqInt, ↓o_neInt, ↓o_eqBool, ↓o_neBool, ↓o_eqPtr, ↓o_nePtr, ↓o_eqPtr', ↓o_eqSl, ↓o_neSl, ↓o_eqStr, ↓o_neStr, ↓o_len, ↓o_lenS, ↓o_min, ↓o_max, ↓o_extract, ↓o_convInt, ↓cd_true, ↓cd_false, ↓gate_tt, ↓gate_ff, ↓gate_tf, ↓gate_ft, ↓gate_undef, ↓o_bind, ↓stay_v, ↓pop_cons, ↓fin_nil, Option.isNone_none, Option.isNone_some, Bool.not_true, Bool.not_false, Nat.zero_add, decide_true, decide_false, if_true, if_false, Bool.false_eq_true, ↓reduceIte]
    rw [o_shrW' (by decide) (by decide), o_convWB, o_shrW' (by decide) (by decide), o_convWB, o_shrW' (by decide) (by decide), o_convWB, o_convWB]
    simp only [ix (j := 4 * i) (by omega), ix (j := 4 * i + 1) (by omega), ix (j := 4 * i + 2) (by omega), ix (j := 4 * i + 3) (by omega)]
    have hlen : ∀ q, q < 32 → q < (((digest st).map bv).take (4 * i) ++ List.replicate (32 - 4 * i) (bv 0)).length := fun q hq => by
      simp [digest_length]; omega
    refine store_sl (b := bo) h rfl (hlen _ (by omega)) fun w h => ?_
    refine store_sl (b := bo) h rfl (by rw [List.length_set]; exact hlen _ (by omega)) fun w h => ?_
    refine store_sl (b := bo) h rfl (by rw [List.length_set, List.length_set]; exact hlen _ (by omega)) fun w h => ?_
    refine store_sl (b := bo) h rfl (by rw [List.length_set, List.length_set, List.length_set]; exact hlen _ (by omega)) fun w h => ?_
    try rw [o_add]
    rw [i64_of (by omega) (by omega)]
    refine hag _ _ _ (by omega) ⟨i + 1, rfl, rfl, by omega, ?_⟩
    have e := digest_set st i _ hlt hx
    rw [← e]
    exact h
  · have hi8 : i = 8 := by omega
    subst hi8
    have h : sat E w (pts bo (.cells ((digest st).map bv).toArray 28 (0, 0)) * (pts bh (.cells (st.list.map wv).toArray 76 (0, 0)) * H)) := by
      have e : ((digest st).map bv).take (4 * 8) ++ List.replicate (32 - 4 * 8) (bv 0) = (digest st).map bv := by
        rw [List.take_of_length_le (by simp [digest_length])]; simp
      rw [e] at h; exact h
    refine ld_agg (b := bo) h (by simp [digest_length]) ?_
    refine storeN_sl (b := bo) h (aggC_28).size (vs := (digest st).map bv) (by simp [Value.cells]) (by simp [digest_length]) (bv_one _) (by simp [digest_length]) fun w h => ?_
    have h : sat E w (pts bo (.cells ((digest st).map bv).toArray 28 (0, 0)) * (pts bh (.cells (st.list.map wv).toArray 76 (0, 0)) * H)) := by
      have e : ((digest st).map bv).take 0 ++ (digest st).map bv ++ ((digest st).map bv).drop (0 + 32) = (digest st).map bv := by
        rw [List.drop_eq_nil_of_le (by simp [digest_length])]; simp
      rw [e] at h; exact h
    exact res_agg (b := bo) h (by simp [digest_length]) (k _ h.drop.drop)
theorem Sum_rest {bh bo bk : Nat} {st : St} {ve : Value} {m : List UInt8} (hm : m.length % 64 = 0) (hml : m.length ≤ 140737488355328)
    (h : sat E w (pts bh (.cells (st.list.map wv).toArray 76 (0, 0)) * (pts bk (.cells (K0.map wv).toArray 119 (0, 0)) * (pts bo (.cells (List.replicate 32 (bv 0)).toArray 28 (0, 0)) * H))))
    (hv : Rds H ve m.length (m.map bv))
    (k : ∀ w', sat E w' H → K (.agg ((digest (fold st m (m.length / 64))).map bv).toArray) w') :
      lp (fun σ w again_35 => pop σ fun end_34 σ => fin σ <|
        pv prog (oBi .len #[22] 3 #[false] #[end_34]) w fun t_36 w =>
        pvv prog (binOp .gtr 3 t_36 (.int .i64 0)) w fun t_37 w =>
        cd t_37 (
          ldv prog (Instr.loadAt 76 (.pointer (some ⟨bh, 0, none⟩))) w fun t_38 w =>
          Calls prog 25 #[t_38, (.pointer (some ⟨bk, 0, none⟩)), end_34] w (Ret fun t_39 w =>
          efu prog (Instr.storeAt 76 (.pointer (some ⟨bh, 0, none⟩)) t_39) w fun u_40 w =>
          pvv prog (Instr.sliceAt 22 end_34 (some (.int .i64 64)) none none) w fun t_41 w =>
          again_35 [t_41] w)) <|
        ldv prog (Instr.loadAt 76 (.pointer (some ⟨bh, 0, none⟩))) w fun t_42 w =>
        lp (fun σ w again_44 => pop σ fun t_43 σ => fin σ <|
          pvv prog (binOp .lss 3 t_43 (.int .i64 8)) w fun t_45 w =>
          cd t_45 (
            pvv prog (Instr.index 76 t_42 t_43) w fun t_46 w =>
            pvv prog (binOp .mul 3 (.int .i64 4) t_43) w fun t_47 w =>
            pvv prog (binOp .mul 3 (.int .i64 4) t_43) w fun t_48 w =>
            pvv prog (binOp .add 3 t_48 (.int .i64 1)) w fun t_49 w =>
            pvv prog (binOp .mul 3 (.int .i64 4) t_43) w fun t_50 w =>
            pvv prog (binOp .add 3 t_50 (.int .i64 2)) w fun t_51 w =>
            pvv prog (binOp .mul 3 (.int .i64 4) t_43) w fun t_52 w =>
            pvv prog (binOp .add 3 t_52 (.int .i64 3)) w fun t_53 w =>
            pvv prog (binOp .shr 74 t_46 (.int .u64 24)) w fun t_54 w =>
            pvv prog (convert 74 5 t_54) w fun t_55 w =>
            pvv prog (binOp .shr 74 t_46 (.int .u64 16)) w fun t_56 w =>
            pvv prog (convert 74 5 t_56) w fun t_57 w =>
            pvv prog (binOp .shr 74 t_46 (.int .u64 8)) w fun t_58 w =>
            pvv prog (convert 74 5 t_58) w fun t_59 w =>
            pvv prog (convert 74 5 t_46) w fun t_60 w =>
            pvv prog (Instr.indexAt 28 (.pointer (some ⟨bo, 0, none⟩)) t_47) w fun t_61 w =>
            efu prog (Instr.storeAt 5 t_61 t_55) w fun u_62 w =>
            pvv prog (Instr.indexAt 28 (.pointer (some ⟨bo, 0, none⟩)) t_49) w fun t_63 w =>
            efu prog (Instr.storeAt 5 t_63 t_57) w fun u_64 w =>
            pvv prog (Instr.indexAt 28 (.pointer (some ⟨bo, 0, none⟩)) t_51) w fun t_65 w =>
            efu prog (Instr.storeAt 5 t_65 t_59) w fun u_66 w =>
            pvv prog (Instr.indexAt 28 (.pointer (some ⟨bo, 0, none⟩)) t_53) w fun t_67 w =>
            efu prog (Instr.storeAt 5 t_67 t_60) w fun u_68 w =>
            pvv prog (binOp .add 3 t_43 (.int .i64 1)) w fun t_69 w =>
            again_44 [t_69] w) <|
          ldv prog (Instr.loadAt 28 (.pointer (some ⟨bo, 0, none⟩))) w fun t_70 w =>
          efu prog (Instr.storeAt 28 (.pointer (some ⟨bo, 0, none⟩)) t_70) w fun u_71 w =>
          ∃ r_72, (do loadVar 28 (← asAddr (.pointer (some ⟨bo, 0, none⟩)))).run prog w = .ok r_72 w ∧ K r_72 w) [(.int .i64 0)] w) [ve] w := by
  obtain ⟨a, c, rfl, hc, hv, ha⟩ := hv.shape h.drop.drop.drop
  refine lp_nat (fun q σ w => ∃ j a' c', σ = [.slice a' (m.length - 64 * j) c'] ∧ q = m.length - 64 * j ∧ 64 * j ≤ m.length ∧ Rds H (.slice a' (m.length - 64 * j) c') (m.length - 64 * j) ((m.drop (64 * j)).map bv) ∧
    sat E w (pts bh (.cells ((fold st m j).list.map wv).toArray 76 (0, 0)) * (pts bk (.cells (K0.map wv).toArray 119 (0, 0)) * (pts bo (.cells (List.replicate 32 (bv 0)).toArray 28 (0, 0)) * H)))) m.length
    ⟨0, a, c, rfl, rfl, by omega, hv, h⟩ ?_
  rintro q σ w again ⟨j, a', c', rfl, rfl, hj, hr, h⟩ hag
  simp only [↓o_nil, ↓o_field, ↓o_add, ↓o_sub, ↓o_mul, ↓o_lss, ↓o_leq, ↓o_gtr, ↓o_geq, ↓o_not, ↓o_pick, ↓o_eqInt, ↓o_neInt, ↓o_eqBool, ↓o_neBool, ↓o_eqPtr, ↓o_nePtr, ↓o_eqPtr', ↓o_eqSl, ↓o_neSl, ↓o_eqStr, ↓o_neStr, ↓o_len, ↓o_lenS, ↓o_min, ↓o_max, ↓o_extract, ↓o_convInt, ↓cd_true, ↓cd_false, ↓gate_tt, ↓gate_ff, ↓gate_tf, ↓gate_ft, ↓gate_undef, ↓o_bind, ↓stay_v, ↓pop_cons, ↓fin_nil, Option.isNone_none, Option.isNone_some, Bool.not_true, Bool.not_false, Nat.zero_add, decide_true, decide_false, if_true, if_false, Bool.false_eq_true, ↓reduceIte]
  refine cd_dec (fun hlt => ?_) (fun hge => ?_)
  · refine ld_agg (b := bh) h (by simp [St.len]) ?_
    have hr2 : Rds (pts bh (.cells ((fold st m j).list.map wv).toArray 76 (0, 0)) * (pts bk (.cells (K0.map wv).toArray 119 (0, 0)) * (pts bo (.cells (List.replicate 32 (bv 0)).toArray 28 (0, 0)) * H))) (.slice a' (m.length - 64 * j) c') (m.drop (64 * j)).length ((m.drop (64 * j)).map bv) := by
      rw [List.length_drop]; exact hr.right.right.right
    refine mix_spec (bk := bk) h K0_length hr2 (by simp; omega) fun w h => ?_
    refine storeN_sl (b := bh) h (aggC_76).size (vs := (mix K0 (fold st m j) (m.drop (64 * j))).list.map wv) (by simp [Value.cells]) (by simp [St.len]) (wv_one _) (by simp [St.len]) fun w h => ?_
    rw [o_slice_l (by decide) (by omega)]
    refine hag (m.length - 64 * (j + 1)) _ _ (by omega) ⟨j + 1, cutA a' c' 64 1, c' - 64, ?_, rfl, by omega, ?_, ?_⟩
    · have e : m.length - 64 * j - (64 : Int).toNat = m.length - 64 * (j + 1) := by
        show m.length - 64 * j - 64 = _; omega
      rw [e]; rfl
    · have := Rds.cutB hr (by simp) (lo := 64) (by omega)
      rw [List.drop_drop] at this
      have e : m.length - 64 * j - 64 = m.length - 64 * (j + 1) := by omega
      rw [e, show 64 * j + 64 = 64 * (j + 1) by omega] at this
      exact this
    · exact h
  · have hj2 : j = m.length / 64 := by omega
    subst hj2
    have h : sat E w (pts bh (.cells ((fold st m (m.length / 64)).list.map wv).toArray 76 (0, 0)) * (pts bo (.cells (List.replicate 32 (bv 0)).toArray 28 (0, 0)) * H)) := h.lose bk
    exact Sum_out h k
theorem lenBytes_get {n i : Nat} (hi : i < 8) : (lenBytes n).take (i + 1) = (lenBytes n).take i ++ [UInt8.ofNat (n * 8 % 18446744073709551616 / 2 ^ (56 - 8 * i))] := by
  have hl : i < (lenBytes n).length := by rw [lenBytes_length]; exact hi
  rw [List.take_succ_eq_append_getElem hl]
  congr 2
  simp [lenBytes]
theorem Sum_len {bh bo bk : Nat} {st : St} {ve : Value} {m : List UInt8} {n N : Nat} (hN : n * 8 % 18446744073709551616 = N) (hm : (m.length + 8) % 64 = 0) (hml : m.length + 8 ≤ 140737488355328)
    (h : sat E w (osl 5 1 ve m.length (m.map bv) * (pts bh (.cells (st.list.map wv).toArray 76 (0, 0)) * (pts bk (.cells (K0.map wv).toArray 119 (0, 0)) * (pts bo (.cells (List.replicate 32 (bv 0)).toArray 28 (0, 0)) * H)))))
    (k : ∀ w', sat E w' H → K (.agg ((digest (fold st (m ++ lenBytes n) ((m ++ lenBytes n).length / 64))).map bv).toArray) w') :
    lp (fun σ w again_25 => pop σ fun end_23 σ => pop σ fun t_24 σ => fin σ <|
      pvv prog (binOp .lss 3 t_24 (.int .i64 8)) w fun t_26 w =>
      cd t_26 (
        pvv prog (binOp .mul 3 (.int .i64 8) t_24) w fun t_27 w =>
        pvv prog (binOp .sub 3 (.int .i64 56) t_27) w fun t_28 w =>
        pvv prog (binOp .shr 79 (.int .u64 (N : Int)) t_28) w fun t_29 w =>
        pvv prog (convert 79 5 t_29) w fun t_30 w =>
        efv prog (Instr.buildSlice 22 1 #[(0, t_30)]) w fun t_31 w =>
        ef prog (oBi .append #[22, 22] 22 #[false, false] #[end_23, t_31]) w fun t_32 w =>
        pvv prog (binOp .add 3 t_24 (.int .i64 1)) w fun t_33 w =>
        again_25 [t_32, t_33] w) <|
      lp (fun σ w again_35 => pop σ fun end_34 σ => fin σ <|
        pv prog (oBi .len #[22] 3 #[false] #[end_34]) w fun t_36 w =>
        pvv prog (binOp .gtr 3 t_36 (.int .i64 0)) w fun t_37 w =>
        cd t_37 (
          ldv prog (Instr.loadAt 76 (.pointer (some ⟨bh, 0, none⟩))) w fun t_38 w =>
          Calls prog 25 #[t_38, (.pointer (some ⟨bk, 0, none⟩)), end_34] w (Ret fun t_39 w =>
          efu prog (Instr.storeAt 76 (.pointer (some ⟨bh, 0, none⟩)) t_39) w fun u_40 w =>
          pvv prog (Instr.sliceAt 22 end_34 (some (.int .i64 64)) none none) w fun t_41 w =>
          again_35 [t_41] w)) <|
        ldv prog (Instr.loadAt 76 (.pointer (some ⟨bh, 0, none⟩))) w fun t_42 w =>
        lp (fun σ w again_44 => pop σ fun t_43 σ => fin σ <|
          pvv prog (binOp .lss 3 t_43 (.int .i64 8)) w fun t_45 w =>
          cd t_45 (
            pvv prog (Instr.index 76 t_42 t_43) w fun t_46 w =>
            pvv prog (binOp .mul 3 (.int .i64 4) t_43) w fun t_47 w =>
            pvv prog (binOp .mul 3 (.int .i64 4) t_43) w fun t_48 w =>
            pvv prog (binOp .add 3 t_48 (.int .i64 1)) w fun t_49 w =>
            pvv prog (binOp .mul 3 (.int .i64 4) t_43) w fun t_50 w =>
            pvv prog (binOp .add 3 t_50 (.int .i64 2)) w fun t_51 w =>
            pvv prog (binOp .mul 3 (.int .i64 4) t_43) w fun t_52 w =>
            pvv prog (binOp .add 3 t_52 (.int .i64 3)) w fun t_53 w =>
            pvv prog (binOp .shr 74 t_46 (.int .u64 24)) w fun t_54 w =>
            pvv prog (convert 74 5 t_54) w fun t_55 w =>
            pvv prog (binOp .shr 74 t_46 (.int .u64 16)) w fun t_56 w =>
            pvv prog (convert 74 5 t_56) w fun t_57 w =>
            pvv prog (binOp .shr 74 t_46 (.int .u64 8)) w fun t_58 w =>
            pvv prog (convert 74 5 t_58) w fun t_59 w =>
            pvv prog (convert 74 5 t_46) w fun t_60 w =>
            pvv prog (Instr.indexAt 28 (.pointer (some ⟨bo, 0, none⟩)) t_47) w fun t_61 w =>
            efu prog (Instr.storeAt 5 t_61 t_55) w fun u_62 w =>
            pvv prog (Instr.indexAt 28 (.pointer (some ⟨bo, 0, none⟩)) t_49) w fun t_63 w =>
            efu prog (Instr.storeAt 5 t_63 t_57) w fun u_64 w =>
            pvv prog (Instr.indexAt 28 (.pointer (some ⟨bo, 0, none⟩)) t_51) w fun t_65 w =>
            efu prog (Instr.storeAt 5 t_65 t_59) w fun u_66 w =>
            pvv prog (Instr.indexAt 28 (.pointer (some ⟨bo, 0, none⟩)) t_53) w fun t_67 w =>
            efu prog (Instr.storeAt 5 t_67 t_60) w fun u_68 w =>
            pvv prog (binOp .add 3 t_43 (.int .i64 1)) w fun t_69 w =>
            again_44 [t_69] w) <|
          ldv prog (Instr.loadAt 28 (.pointer (some ⟨bo, 0, none⟩))) w fun t_70 w =>
          efu prog (Instr.storeAt 28 (.pointer (some ⟨bo, 0, none⟩)) t_70) w fun u_71 w =>
          ∃ r_72, (do loadVar 28 (← asAddr (.pointer (some ⟨bo, 0, none⟩)))).run prog w = .ok r_72 w ∧ K r_72 w) [(.int .i64 0)] w) [end_23] w) [ve, .int .i64 0] w := by
  refine lp_nat (fun q σ w => ∃ (i : Nat) (ve : Value), σ = [ve, .int .i64 i] ∧ q = 8 - i ∧ i ≤ 8 ∧
    sat E w (osl 5 1 ve (m.length + i) ((m ++ (lenBytes n).take i).map bv) * (pts bh (.cells (st.list.map wv).toArray 76 (0, 0)) * (pts bk (.cells (K0.map wv).toArray 119 (0, 0)) * (pts bo (.cells (List.replicate 32 (bv 0)).toArray 28 (0, 0)) * H))))) 8
    ⟨0, ve, rfl, rfl, by omega, by simpa using h⟩ ?_
  rintro q σ w again ⟨i, ve, rfl, rfl, hi, h⟩ hag
  simp only [↓o_nil, ↓o_field, ↓o_add, ↓o_sub, ↓o_mul, ↓o_lss, ↓o_leq, ↓o_gtr, ↓o_geq, ↓o_not, ↓o_pick, ↓o_eqInt, ↓o_neInt, ↓o_eqBool, ↓o_neBool, ↓o_eqPtr, ↓o_nePtr, ↓o_eqPtr', ↓o_eqSl, ↓o_neSl, ↓o_eqStr, ↓o_neStr, ↓o_len, ↓o_lenS, ↓o_min, ↓o_max, ↓o_extract, ↓o_convInt, ↓cd_true, ↓cd_false, ↓gate_tt, ↓gate_ff, ↓gate_tf, ↓gate_ft, ↓gate_undef, ↓o_bind, ↓stay_v, ↓pop_cons, ↓fin_nil, Option.isNone_none, Option.isNone_some, Bool.not_true, Bool.not_false, Nat.zero_add, decide_true, decide_false, if_true, if_false, Bool.false_eq_true, ↓reduceIte]
  refine cd_dec (fun hlt => ?_) (fun hge => ?_)
  · have hlt : i < 8 := by omega
    have e0 : IntKind.i64.wrap (8 * (i : Int)) = ((8 * i : Nat) : Int) := by rw [i64_of (by omega) (by omega)]; omega
    have e1 : IntKind.i64.wrap (56 - ((8 * i : Nat) : Int)) = ((56 - 8 * i : Nat) : Int) := by rw [i64_of (by omega) (by omega)]; omega
    rw [e0, e1, o_shr (by simp [IntKind.bits]; omega), o_convInt]
    have e2 : Value.int .u8 (IntKind.u8.wrap ((N / 2 ^ (56 - 8 * i) : Nat) : Int)) = bv (UInt8.ofNat (N / 2 ^ (56 - 8 * i))) := by
      unfold bv; rw [IntKind.wrap_u8]; congr 1
    rw [e2]
    refine push_sl h rfl rfl (by omega) (by omega) fun v2 w h => ?_
    try rw [o_add]
    rw [i64_of (by omega) (by omega)]
    refine hag (8 - (i + 1)) _ _ (by omega) ⟨i + 1, v2, rfl, rfl, by omega, ?_⟩
    rw [lenBytes_get hlt, hN, ← List.append_assoc, List.map_append]
    exact h
  · have hi8 : i = 8 := by omega
    subst hi8
    have e : (lenBytes n).take 8 = lenBytes n := List.take_of_length_le (by rw [lenBytes_length]; omega)
    rw [e] at h
    have hfr := osl_freeze h
    have hfr : sat E w (pts bh (.cells (st.list.map wv).toArray 76 (0, 0)) * (pts bk (.cells (K0.map wv).toArray 119 (0, 0)) * (pts bo (.cells (List.replicate 32 (bv 0)).toArray 28 (0, 0)) * (pers (immS ve (m.length + 8) ((m ++ lenBytes n).map bv)) * H)))) := hfr.perm (by ac_rfl)
    refine Sum_rest (m := m ++ lenBytes n) (by rw [List.length_append, lenBytes_length]; exact hm) (by rw [List.length_append, lenBytes_length]; exact hml) hfr ?_ fun w h => k _ h.drop
    rw [List.length_append, lenBytes_length]
    exact Rds.pers.left
theorem Sum_spec (h : sat E w H) {v : Value} {b : List UInt8} (hb : Rds H v b.length (b.map bv)) (hl : b.length ≤ 140737488355000)
    (k : ∀ w', sat E w' H → K (.agg ((sha b).map bv).toArray) w') : Calls prog 7 #[v] w (Ret K) := by
  refine c7 ?_
  unfold B7
  refine alloc_sl h fun bo w h => ?_
  have h : sat E w (pts bo (.cells (List.replicate 32 (bv 0)).toArray 28 (0, 0)) * H) := h
  refine pvv_of (v := .agg (st0.list.map wv).toArray) (fun w => by kernel_rfl) ?_
  refine alloc_sl h fun bh w h => ?_
  have h : sat E w (pts bh (.cells (List.replicate 8 (wv 0)).toArray 76 (0, 0)) * (pts bo (.cells (List.replicate 32 (bv 0)).toArray 28 (0, 0)) * H)) := h
  refine storeN_sl (b := bh) h (aggC_76).size (vs := st0.list.map wv) (by simp [Value.cells]) (by simp [St.len]) (wv_one _) (by simp) fun w h => ?_
  have h : sat E w (pts bh (.cells (st0.list.map wv).toArray 76 (0, 0)) * (pts bo (.cells (List.replicate 32 (bv 0)).toArray 28 (0, 0)) * H)) := h
  refine rounds_spec h fun bk w h => ?_
  obtain ⟨a, c, rfl, hc, hb, ha⟩ := hb.shape (h.drop.drop.drop)
  simp only [↓o_nil, ↓o_field, ↓o_add, ↓o_sub, ↓o_mul, ↓o_lss, ↓o_leq, ↓o_gtr, ↓o_geq, ↓o_not, ↓o_pick, ↓o_eqInt, ↓o_neInt, ↓o_eqBool, ↓o_neBool, ↓o_eqPtr, ↓o_nePtr, ↓o_eqPtr', ↓o_eqSl, ↓o_neSl, ↓o_eqStr, ↓o_neStr, ↓o_len, ↓o_lenS, ↓o_min, ↓o_max, ↓o_extract, ↓o_convInt, ↓cd_true, ↓cd_false, ↓gate_tt, ↓gate_ff, ↓gate_tf, ↓gate_ft, ↓gate_undef, ↓o_bind, ↓stay_v, ↓pop_cons, ↓fin_nil, Option.isNone_none, Option.isNone_some, Bool.not_true, Bool.not_false, Nat.zero_add, decide_true, decide_false, if_true, if_false, Bool.false_eq_true, ↓reduceIte]
  have ew : IntKind.u64.wrap (b.length : Int) = (b.length : Int) := by rw [IntKind.wrap_u64]; omega
  rw [ew]
  rw [show (Value.int .u64 3) = Value.int .u64 ((3 : Nat) : Int) from rfl, o_shl (by decide)]
  have en : IntKind.u64.wrap ((b.length : Int) * 2 ^ 3) = ((b.length * 8 % 18446744073709551616 : Nat) : Int) := by rw [IntKind.wrap_u64]; omega
  rw [en]
  generalize hN : b.length * 8 % 18446744073709551616 = N
  refine lp_nat (fun m σ w => ∃ j a' c', σ = [.slice a' (b.length - 64 * j) c'] ∧ m = b.length - 64 * j ∧ 64 * j ≤ b.length ∧ Rds H (.slice a' (b.length - 64 * j) c') (b.length - 64 * j) ((b.drop (64 * j)).map bv) ∧
    sat E w (pts bh (.cells ((fold st0 b j).list.map wv).toArray 76 (0, 0)) * (pts bk (.cells (K0.map wv).toArray 119 (0, 0)) * (pts bo (.cells (List.replicate 32 (bv 0)).toArray 28 (0, 0)) * H)))) b.length
    ⟨0, a, c, rfl, rfl, by omega, hb, h.perm (by rw [star_left_comm]; rfl)⟩ ?_
  rintro m σ w again ⟨j, a', c', rfl, rfl, hj, hr, h⟩ hag
  simp only [↓o_nil, ↓o_field, ↓o_add, ↓o_sub, ↓o_mul, ↓o_lss, ↓o_leq, ↓o_gtr, ↓o_geq, ↓o_not, ↓o_pick, ↓o_eqInt, ↓o_neInt, ↓o_eqBool, ↓o_neBool, ↓o_eqPtr, ↓o_nePtr, ↓o_eqPtr', ↓o_eqSl, ↓o_neSl, ↓o_eqStr, ↓o_neStr, ↓o_len, ↓o_lenS, ↓o_min, ↓o_max, ↓o_extract, ↓o_convInt, ↓cd_true, ↓cd_false, ↓gate_tt, ↓gate_ff, ↓gate_tf, ↓gate_ft, ↓gate_undef, ↓o_bind, ↓stay_v, ↓pop_cons, ↓fin_nil, Option.isNone_none, Option.isNone_some, Bool.not_true, Bool.not_false, Nat.zero_add, decide_true, decide_false, if_true, if_false, Bool.false_eq_true, ↓reduceIte]
  refine cd_dec (fun hlt => ?_) (fun hge => ?_)
  · refine ld_agg (b := bh) h (by simp [St.len]) ?_
    have hr2 : Rds (pts bh (.cells ((fold st0 b j).list.map wv).toArray 76 (0, 0)) * (pts bk (.cells (K0.map wv).toArray 119 (0, 0)) * (pts bo (.cells (List.replicate 32 (bv 0)).toArray 28 (0, 0)) * H))) (.slice a' (b.length - 64 * j) c') (b.drop (64 * j)).length ((b.drop (64 * j)).map bv) := by
      rw [List.length_drop]; exact hr.right.right.right
    refine mix_spec (bk := bk) h K0_length hr2 (by simp; omega) fun w h => ?_
    refine storeN_sl (b := bh) h (aggC_76).size (vs := (mix K0 (fold st0 b j) (b.drop (64 * j))).list.map wv) (by simp [Value.cells]) (by simp [St.len]) (wv_one _) (by simp [St.len]) fun w h => ?_
    rw [o_slice_l (by decide) (by omega)]
    refine hag (b.length - 64 * (j + 1)) _ _ (by omega) ⟨j + 1, cutA a' c' 64 1, c' - 64, ?_, rfl, by omega, ?_, ?_⟩
    · have e : b.length - 64 * j - (64 : Int).toNat = b.length - 64 * (j + 1) := by
        show b.length - 64 * j - 64 = _; omega
      rw [e]; rfl
    · have := Rds.cutB hr (by simp) (lo := 64) (by omega)
      rw [List.drop_drop] at this
      have e : b.length - 64 * j - 64 = b.length - 64 * (j + 1) := by omega
      rw [e, show 64 * j + 64 = 64 * (j + 1) by omega] at this
      exact this
    · exact h
  · have hlt : b.length - 64 * j < 64 := by omega
    have hr2 : Rds (pts bh (.cells ((fold st0 b j).list.map wv).toArray 76 (0, 0)) * (pts bk (.cells (K0.map wv).toArray 119 (0, 0)) * (pts bo (.cells (List.replicate 32 (bv 0)).toArray 28 (0, 0)) * H))) (.slice a' (b.length - 64 * j) c') (b.drop (64 * j)).length ((b.drop (64 * j)).map bv) := by
      rw [List.length_drop]; exact hr.right.right.right
    refine Clone_spec h hr2 (by simp; omega) fun v1 w h => ?_
    refine push_sl h rfl rfl (by simp; omega) (by simp; omega) fun v2 w h => ?_
    have hlen : (b.drop (64 * j)).length = b.length - 64 * j := by simp
    rw [i64_of (by omega) (by omega), o_rem (by decide)]
    have ez : ((119 : Int) - ((b.length - 64 * j : Nat) : Int)).tmod 64 = (((119 - b.length % 64) % 64 : Nat) : Int) := by
      rw [Int.tmod_eq_emod_of_nonneg (by omega)]
      omega
    rw [ez]
    refine append_noughts h rfl (by rw [hlen]; omega) (by rw [hlen]; omega) fun v3 w h => ?_
    have em : (b.drop (64 * j)).map bv ++ [Value.int .u8 128] ++ List.replicate ((119 - b.length % 64) % 64) (Value.int .u8 0) = (b.drop (64 * j) ++ [128] ++ List.replicate ((119 - b.length % 64) % 64) 0).map bv := by
      simp [bv]
    rw [em] at h
    refine Sum_len (n := b.length) (m := b.drop (64 * j) ++ [128] ++ List.replicate ((119 - b.length % 64) % 64) 0) hN (by simp; omega) (by simp; omega) (by
      have el : (b.drop (64 * j) ++ [128] ++ List.replicate ((119 - b.length % 64) % 64) 0).length = (b.drop (64 * j)).length + 1 + (119 - b.length % 64) % 64 := by simp; omega
      rw [el]; exact h) fun w h => ?_
    have e1 := pad_drop hj
    have e2 : fold st0 b j = fold st0 (padded b) j := fold_congr (pad_take hj).symm
    rw [← e1, e2, fold_add]
    have e3 : j + ((padded b).drop (64 * j)).length / 64 = (padded b).length / 64 := by
      have h1 := padded_length b
      have h2 : b.length ≤ (padded b).length := by simp [padded]
      rw [List.length_drop]
      omega
    rw [e3]
    exact k _ h
end Go.Proofs.YtmnaalpjhkkglaaGreatDoor

/-
  The reference's SHA-256: words and rounds.
-/
set_option linter.all false
set_option maxRecDepth 10000
namespace Go.Proofs.YtmnaalpjhkkglaaGreatDoor
open Go Hold
variable {E : World0} {w : World} {H R : HP} {K : Value → World → Prop}
theorem o_notW {P : Program} {a : UInt32} {K : Value → World → Prop} : pvv P (Op.unary .xor (wv a)) w K = K (wv (~~~a)) w := pvv_eq fun _ => by
  have e : (~~~a) = 4294967295 ^^^ a := by
    apply UInt32.toBitVec_inj.1
    apply BitVec.eq_of_getLsbD_eq
    intro i hi
    rw [UInt32.toBitVec_not, UInt32.toBitVec_xor, BitVec.getLsbD_not, BitVec.getLsbD_xor]
    have : ∀ i : Fin 32, (UInt32.toBitVec 4294967295).getLsbD i.val = true := by decide
    rw [this ⟨i, hi⟩]
    simp [hi]
  rw [e]
  have := @o_xorW P (w := w) (K := fun v _ => v = wv (4294967295 ^^^ a)) (t := 0) (a := 4294967295) (b := a)
  simp only [Op.unary, wv, Op.intBits, IntKind.bits, ofInt32]
  simp only [IntKind.signed, IntKind.max, if_false, Bool.false_eq_true]
  simp
  have hx := wrapW (4294967295 ^^^ a)
  have e2 : (BitVec.ofInt 32 (2 ^ IntKind.u32.bits - 1)) = (4294967295 : UInt32).toBitVec := by decide
  rw [e2]
  exact hx.trans (by simp)
theorem ch_eq (e f g : UInt32) : (e &&& f) ^^^ (~~~e &&& g) = g ^^^ (e &&& (f ^^^ g)) := by
  apply UInt32.toBitVec_inj.1
  apply BitVec.eq_of_getLsbD_eq
  intro i hi
  simp only [UInt32.toBitVec_and, UInt32.toBitVec_xor, UInt32.toBitVec_not, BitVec.getLsbD_and, BitVec.getLsbD_xor, BitVec.getLsbD_not, hi, decide_true, Bool.true_and]
  cases e.toBitVec.getLsbD i <;> cases f.toBitVec.getLsbD i <;> cases g.toBitVec.getLsbD i <;> rfl
theorem maj_eq (a b c : UInt32) : ((a &&& b) ^^^ (a &&& c)) ^^^ (b &&& c) = (a &&& b) ||| (c &&& (a ||| b)) := by
  apply UInt32.toBitVec_inj.1
  apply BitVec.eq_of_getLsbD_eq
  intro i hi
  simp only [UInt32.toBitVec_and, UInt32.toBitVec_xor, UInt32.toBitVec_or, BitVec.getLsbD_and, BitVec.getLsbD_xor, BitVec.getLsbD_or]
  cases a.toBitVec.getLsbD i <;> cases b.toBitVec.getLsbD i <;> cases c.toBitVec.getLsbD i <;> rfl
def acc (b : List UInt8) (i : Nat) : Nat → UInt32
  | 0 => 0
  | j + 1 => (acc b i j <<< UInt32.ofNat 8) ||| (b.getD (4 * i + j) 0).toUInt32
theorem acc_word (b : List UInt8) (i : Nat) : acc b i 4 = word b i := by
  simp only [acc, word, Nat.add_zero]
  generalize (b.getD (4 * i) 0).toUInt32 = x0
  generalize (b.getD (4 * i + 1) 0).toUInt32 = x1
  generalize (b.getD (4 * i + 2) 0).toUInt32 = x2
  generalize (b.getD (4 * i + 3) 0).toUInt32 = x3
  apply UInt32.toBitVec_inj.1
  simp only [UInt32.toBitVec_or, UInt32.toBitVec_shiftLeft]
  have e8 : ((UInt32.ofNat 8).toBitVec % 32 : BitVec 32).toNat = 8 := by decide
  have e16 : ((UInt32.ofNat 16).toBitVec % 32 : BitVec 32).toNat = 16 := by decide
  have e24 : ((UInt32.ofNat 24).toBitVec % 32 : BitVec 32).toNat = 24 := by decide
  simp only [BitVec.shiftLeft_eq', e8, e16, e24]
  apply BitVec.eq_of_getLsbD_eq
  intro i hi
  simp only [BitVec.getLsbD_or, BitVec.getLsbD_shiftLeft]
  have z : (UInt32.toBitVec 0).getLsbD (i - 8 - 8 - 8 - 8) = false := by simp
  by_cases h1 : i < 8
  · simp [h1, hi, show i < 16 by omega, show i < 24 by omega]
  · by_cases h2 : i < 16
    · simp [h1, hi, h2, show i < 24 by omega, show i - 8 < 8 by omega, show i - 8 < 32 by omega]
    · by_cases h3 : i < 24
      · simp [h1, h2, h3, hi, show ¬ (i - 8 < 8) by omega, show i - 8 < 32 by omega, show i - 8 - 8 < 8 by omega, show i - 8 - 8 < 32 by omega, show i - 8 - 8 = i - 16 by omega, show i - 16 < 8 by omega]
      · simp [h1, h2, h3, hi, show ¬ (i - 8 < 8) by omega, show i - 8 < 32 by omega, show ¬ (i - 8 - 8 < 8) by omega, show i - 8 - 8 < 32 by omega, show i - 8 - 8 - 8 < 32 by omega, show i - 8 - 8 - 8 < 8 by omega, show i - 8 - 8 = i - 16 by omega, show i - 16 - 8 = i - 24 by omega, show ¬ (i - 16 < 8) by omega, show i - 16 < 32 by omega]
theorem set_mine {α : Type} {us : List α} {z : α} {n i : Nat} (hi : us.length = i) (h : i < n) : (us ++ List.replicate (n - i) z).set i z = us ++ List.replicate (n - i) z := by
  rw [set_fill hi h, show n - i = (n - (i + 1)) + 1 by omega, List.replicate_succ]
  simp
theorem getD_drop' {l : List UInt8} {a i : Nat} : (l.drop a).getD i 0 = l.getD (a + i) 0 := by
  simp [List.getD_eq_getElem?_getD]
theorem r_word {q i b3 bm om cm : Nat} {e3 : TypeId} {us : List UInt32} {m : List UInt8} (hi : i < 16) (hus : us.length = i) (hq : 64 * q + 64 ≤ m.length) (hml : m.length ≤ 140737488355328)
    (h : sat E w (pts b3 (.cells (us.map wv ++ List.replicate (64 - i) (wv 0)).toArray e3 (0, 0)) * R)) (hm : Rds R (.slice (some ⟨bm, om, none⟩) m.length cm) m.length (m.map bv)) {k : List Value → World → Prop}
    (hk : ∀ w, sat E w (pts b3 (.cells ((us ++ [word (m.drop (64 * q)) i]).map wv ++ List.replicate (64 - (i + 1)) (wv 0)).toArray e3 (0, 0)) * R) → k [.int .i64 ((i + 1 : Nat) : Int)] w) :
              lp (fun σ w again_36 => pop σ fun j_35 σ => fin σ <|
                pvv prog (binOp .lss 3 j_35 (.int .i64 4)) w fun t_37 w =>
                cd t_37 (
                  dr w fun w =>
                  pvv prog (Instr.indexAt 121 (.slice (some ⟨b3, 0, none⟩) 64 64) (.int .i64 i)) w fun t_38 w =>
                  pvv prog (binOp .mul 3 (.int .i64 4) (.int .i64 i)) w fun t_39 w =>
                  pvv prog (binOp .add 3 (.int .i64 ((64 * q : Nat) : Int)) t_39) w fun t_40 w =>
                  pvv prog (binOp .add 3 t_40 j_35) w fun t_41 w =>
                  pvv prog (Instr.indexAt 22 (.slice (some ⟨bm, om, none⟩) m.length cm) t_41) w fun t_42 w =>
                  bindS (vN (Instr.loadAt 74 t_38)) fun m_44 => ldv prog (Instr.loadAt 74 t_38) w fun t_43 w =>
                  pvv prog (binOp .shl 74 t_43 (.int .u64 8)) w fun t_45 w =>
                  bindS (vN (Instr.loadAt 5 t_42)) fun m_47 => ldv prog (Instr.loadAt 5 t_42) w fun t_46 w =>
                  pvv prog (convert 5 74 t_46) w fun t_48 w =>
                  pvv prog (binOp .or 74 t_45 t_48) w fun t_49 w =>
                  pvv prog (Instr.indexAt 121 (.slice (some ⟨b3, 0, none⟩) 64 64) (.int .i64 i)) w fun t_50 w =>
                  efu prog (Instr.storeAt 74 t_50 t_49) w fun u_51 w =>
                  pvv prog (binOp .add 3 j_35 (.int .i64 1)) w fun t_52 w =>
                  again_36 [t_52] w) <|
                pvv prog (binOp .add 3 (.int .i64 i) (.int .i64 1)) w fun t_54 w =>
                k [t_54] w) [(.int .i64 0)] w := by
  refine lp_nat (fun c σ w => ∃ j : Nat, σ = [.int .i64 j] ∧ c = 4 - j ∧ j ≤ 4 ∧
    sat E w (pts b3 (.cells ((us.map wv ++ List.replicate (64 - i) (wv 0)).set i (wv (acc (m.drop (64 * q)) i j))).toArray e3 (0, 0)) * R)) 4 ⟨0, rfl, rfl, by omega, by
      show sat E w (pts b3 (.cells ((us.map wv ++ List.replicate (64 - i) (wv 0)).set i (wv 0)).toArray e3 (0, 0)) * R)
      rw [set_mine (by simpa using hus) (by omega)]; exact h⟩ ?_
  rintro c σ w again ⟨j, rfl, rfl, hj, h⟩ hag
  have hlen : i < (us.map wv ++ List.replicate (64 - i) (wv 0)).length := by simp; omega
  rw [pop_cons, fin_nil, o_lss]
  refine cd_dec (fun hlt => ?_) (fun hge => ?_)
  · have hlt : j < 4 := by omega
    have ix : ∀ {w : World} {K : Value → World → Prop}, pvv prog (Instr.indexAt 121 (.slice (some ⟨b3, 0, none⟩) 64 64) (.int .i64 (i : Int))) w K = K (.pointer (some ⟨b3, i, none⟩)) w := fun {w K} => by
      rw [o_index (by omega) (by omega)]; simp
    have e0 : IntKind.i64.wrap (4 * (i : Int)) = ((4 * i : Nat) : Int) := by rw [i64_of (by omega) (by omega)]; omega
    have e1 : IntKind.i64.wrap (((64 * q : Nat) : Int) + ((4 * i : Nat) : Int)) = ((64 * q + 4 * i : Nat) : Int) := by rw [i64_of (by omega) (by omega)]; omega
    have e2 : IntKind.i64.wrap (((64 * q + 4 * i : Nat) : Int) + (j : Int)) = ((64 * q + 4 * i + j : Nat) : Int) := by rw [i64_of (by omega) (by omega)]; omega
    have im : ∀ {w : World} {K : Value → World → Prop}, pvv prog (Instr.indexAt 22 (.slice (some ⟨bm, om, none⟩) m.length cm) (.int .i64 ((64 * q + 4 * i + j : Nat) : Int))) w K = K (.pointer (some ⟨bm, om + (64 * q + 4 * i + j), none⟩)) w := fun {w K} => by
      rw [o_index (by omega) (by omega)]; simp only [Int.toNat_natCast, Nat.mul_one]
    refine dr_sl h fun w h _ => ?_
    simp only [ix, e0, e1, e2, im, ↓o_nil, ↓o_field, ↓o_add, ↓o_sub, ↓o_mul, ↓o_lss, ↓o_leq, ↓o_gtr, ↓o_geq, ↓o_not, ↓o_pick, ↓o_eqInt, ↓o_neInt, ↓o_eqBool, ↓o_neBool, ↓o_eqPtr, ↓o_nePtr, ↓o_eqPtr', ↓o_eqSl, ↓o_neSl, ↓o_eqStr, ↓o_neStr, ↓o_len, ↓o_lenS, ↓o_min, ↓o_max, ↓o_extract, ↓o_convInt, ↓cd_true, ↓cd_false, ↓gate_tt, ↓gate_ff, ↓gate_tf, ↓gate_ft, ↓gate_undef, ↓o_bind, ↓stay_v, ↓pop_cons, ↓fin_nil, Option.isNone_none, Option.isNone_some, Bool.not_true, Bool.not_false, Nat.zero_add, decide_true, decide_false, if_true, if_false, Bool.false_eq_true, ↓reduceIte]
    refine ld_in (b := b3) (v := wv (acc (m.drop (64 * q)) i j)) h (by rw [List.getElem?_set_self hlen]) ?_
    rw [o_shlW' (by decide) (by decide)]
    refine ld_rd h (hm.right) _ rfl (getbv (by omega)) ?_
    rw [o_convBW, o_orW]
    try rw [ix]
    refine store_sl (b := b3) h rfl (by rw [List.length_set]; exact hlen) fun w h => ?_
    try rw [o_add]
    rw [i64_of (by omega) (by omega)]
    refine hag (4 - (j + 1)) _ _ (by omega) ⟨j + 1, rfl, rfl, by omega, ?_⟩
    rw [List.set_set] at h
    have e : acc (m.drop (64 * q)) i (j + 1) = (acc (m.drop (64 * q)) i j <<< UInt32.ofNat 8) ||| (m.getD (64 * q + 4 * i + j) 0).toUInt32 := by
      simp only [acc]
      rw [getD_drop', ← Nat.add_assoc]
    rw [e]
    exact h
  · have hj4 : j = 4 := by omega
    subst hj4
    rw [o_add, i64_of (by omega) (by omega)]
    refine hk _ ?_
    rw [acc_word, set_fill (by simpa using hus) (by omega)] at h
    have e : us.map wv ++ [wv (word (m.drop (64 * q)) i)] = (us ++ [word (m.drop (64 * q)) i]).map wv := by simp
    rw [← e]
    exact h
theorem build8 {a b c d e f g h : UInt32} : ∀ w, (Instr.buildSlice 121 8 #[(0, wv a), (1, wv b), (2, wv c), (3, wv d), (4, wv e), (5, wv f), (6, wv g), (7, wv h)]).run prog w = .ok (.slice (some ⟨w.heap.size, 0, none⟩) 8 8) (w.alloc (.cells #[wv a, wv b, wv c, wv d, wv e, wv f, wv g, wv h] 74 (0, 0))) := fun w => by kernel_rfl
end Go.Proofs.YtmnaalpjhkkglaaGreatDoor

/-
  The reference's SHA-256, whole.
-/
set_option linter.all false
set_option maxRecDepth 10000
namespace Go.Proofs.YtmnaalpjhkkglaaGreatDoor
open Go Hold
variable {E : World0} {w : World} {H R : HP} {K : Value → World → Prop}
theorem o_quo {P : Program} {t : TypeId} {k : IntKind} {a b : Int} {K : Value → World → Prop} (hb : b ≠ 0) : pvv P (binOp .quo t (.int k a) (.int k b)) w K = K (.int k (k.wrap (a.tdiv b))) w := pvv_eq fun _ => by simp [binOp, Op.intDiv, hb]
theorem shr0 (x : UInt32) : x >>> UInt32.ofNat 0 = x := by
  apply UInt32.toNat_inj.1
  rw [UInt32.toNat_shiftRight]
  simp
theorem digest_get (st : St) : ∀ i, i < 32 → (digest st)[i]? = some ((st.list.getD (i / 4) 0) >>> UInt32.ofNat (24 - 8 * (i % 4))).toUInt8
  | 0, _ => rfl
  | 1, _ => rfl
  | 2, _ => rfl
  | 3, _ => congrArg (fun x : UInt32 => some x.toUInt8) (shr0 st.a).symm
  | 4, _ => rfl
  | 5, _ => rfl
  | 6, _ => rfl
  | 7, _ => congrArg (fun x : UInt32 => some x.toUInt8) (shr0 st.b).symm
  | 8, _ => rfl
  | 9, _ => rfl
  | 10, _ => rfl
  | 11, _ => congrArg (fun x : UInt32 => some x.toUInt8) (shr0 st.c).symm
  | 12, _ => rfl
  | 13, _ => rfl
  | 14, _ => rfl
  | 15, _ => congrArg (fun x : UInt32 => some x.toUInt8) (shr0 st.d).symm
  | 16, _ => rfl
  | 17, _ => rfl
  | 18, _ => rfl
  | 19, _ => congrArg (fun x : UInt32 => some x.toUInt8) (shr0 st.e).symm
  | 20, _ => rfl
  | 21, _ => rfl
  | 22, _ => rfl
  | 23, _ => congrArg (fun x : UInt32 => some x.toUInt8) (shr0 st.f).symm
  | 24, _ => rfl
  | 25, _ => rfl
  | 26, _ => rfl
  | 27, _ => congrArg (fun x : UInt32 => some x.toUInt8) (shr0 st.g).symm
  | 28, _ => rfl
  | 29, _ => rfl
  | 30, _ => rfl
  | 31, _ => congrArg (fun x : UInt32 => some x.toUInt8) (shr0 st.h).symm
  | n + 32, h => by omega
theorem r_out {bh bo : Nat} {st : St} (h : sat E w (pts bh (.cells (st.list.map wv).toArray 74 (0, 0)) * (pts bo (.cells (List.replicate 32 (bv 0)).toArray 28 (0, 0)) * H)))
    (k : ∀ w', sat E w' H → K (.agg ((digest st).map bv).toArray) w') :
        efv prog (Instr.alloc 28 true (.tuple #[])) w fun out_228 w =>
        lp (fun σ w again_230 => pop σ fun i_229 σ => fin σ <|
          pvv prog (binOp .lss 3 i_229 (.int .i64 32)) w fun t_231 w =>
          cd t_231 (
            pvv prog (binOp .quo 3 i_229 (.int .i64 4)) w fun t_232 w =>
            pvv prog (Instr.indexAt 121 (.slice (some ⟨bh, 0, none⟩) 8 8) t_232) w fun t_233 w =>
            ldv prog (Instr.loadAt 74 t_233) w fun t_234 w =>
            pvv prog (binOp .rem 3 i_229 (.int .i64 4)) w fun t_235 w =>
            pvv prog (binOp .mul 3 (.int .i64 8) t_235) w fun t_236 w =>
            pvv prog (binOp .sub 3 (.int .i64 24) t_236) w fun t_237 w =>
            pvv prog (binOp .shr 74 t_234 t_237) w fun t_238 w =>
            pvv prog (convert 74 5 t_238) w fun t_239 w =>
            pvv prog (Instr.indexAt 28 out_228 i_229) w fun t_240 w =>
            efu prog (Instr.storeAt 5 t_240 t_239) w fun u_241 w =>
            pvv prog (binOp .add 3 i_229 (.int .i64 1)) w fun t_242 w =>
            again_230 [t_242] w) <|
          ldv prog (Instr.loadAt 28 out_228) w fun t_243 w =>
          efu prog (Instr.storeAt 28 (.pointer (some ⟨bo, 0, none⟩)) t_243) w fun u_244 w =>
          ∃ r_245, (do loadVar 28 (← asAddr (.pointer (some ⟨bo, 0, none⟩)))).run prog w = .ok r_245 w ∧ K r_245 w) [(.int .i64 0)] w := by
  refine alloc_sl h fun b5 w h => ?_
  have h : sat E w (pts b5 (.cells (List.replicate 32 (bv 0)).toArray 28 (0, 0)) * (pts bh (.cells (st.list.map wv).toArray 74 (0, 0)) * (pts bo (.cells (List.replicate 32 (bv 0)).toArray 28 (0, 0)) * H))) := h
  have hdl : ((digest st).map bv).length = 32 := by rw [List.length_map, digest_length]
  refine lp_nat (fun m σ w => ∃ i : Nat, σ = [.int .i64 i] ∧ m = 32 - i ∧ i ≤ 32 ∧
    sat E w (pts b5 (.cells (((digest st).map bv).take i ++ (List.replicate 32 (bv 0)).drop i).toArray 28 (0, 0)) * (pts bh (.cells (st.list.map wv).toArray 74 (0, 0)) * (pts bo (.cells (List.replicate 32 (bv 0)).toArray 28 (0, 0)) * H)))) 32 ⟨0, rfl, rfl, by omega, h⟩ ?_
  rintro m σ w again ⟨i, rfl, rfl, hi, h⟩ hag
  rw [pop_cons, fin_nil, o_lss]
  refine cd_dec (fun hlt => ?_) (fun hge => ?_)
  · have hlt : i < 32 := by omega
    have e0 : IntKind.i64.wrap ((i : Int).tdiv 4) = ((i / 4 : Nat) : Int) := by
      rw [Int.tdiv_eq_ediv_of_nonneg (by omega), i64_of (by omega) (by omega)]; omega
    have e1 : (i : Int).tmod 4 = ((i % 4 : Nat) : Int) := by
      rw [Int.tmod_eq_emod_of_nonneg (by omega)]; omega
    have e2 : IntKind.i64.wrap (8 * ((i % 4 : Nat) : Int)) = ((8 * (i % 4) : Nat) : Int) := by rw [i64_of (by omega) (by omega)]; omega
    have e3 : IntKind.i64.wrap (24 - ((8 * (i % 4) : Nat) : Int)) = ((24 - 8 * (i % 4) : Nat) : Int) := by rw [i64_of (by omega) (by omega)]; omega
    rw [o_quo (by decide), e0, o_index (by omega) (by omega)]
    refine ld_in (b := bh) (o := 0 + ((i / 4 : Nat) : Int).toNat * 1) (v := wv (st.list.getD (i / 4) 0)) h (by
      have e : 0 + ((i / 4 : Nat) : Int).toNat * 1 = i / 4 := by rw [Int.toNat_natCast]; omega
      rw [e]; exact getwv' (by rw [St.len]; omega)) ?_
    rw [o_rem (by decide), e1, o_mul, e2, o_sub, e3, o_shrW (by omega), o_convWB, o_indexA (by omega) (by omega)]
    refine store_sl (b := b5) (o := 0 + (i : Int).toNat) h rfl (by simp [digest_length]; omega) fun w h => ?_
    rw [o_add, i64_of (by omega) (by omega)]
    refine hag (32 - (i + 1)) _ _ (by omega) ⟨i + 1, rfl, rfl, by omega, ?_⟩
    have e4 : (((digest st).map bv).take i ++ (List.replicate 32 (bv 0)).drop i).set (0 + (i : Int).toNat) (bv ((st.list.getD (i / 4) 0) >>> UInt32.ofNat (24 - 8 * (i % 4))).toUInt8) = ((digest st).map bv).take (i + 1) ++ (List.replicate 32 (bv 0)).drop (i + 1) := by
      rw [Nat.zero_add, Int.toNat_natCast]
      refine take_drop_set hdl (by simp) hlt ?_
      rw [List.getElem?_map, digest_get st i hlt]
      rfl
    rw [e4] at h
    exact h
  · have hi8 : i = 32 := by omega
    subst hi8
    have h : sat E w (pts b5 (.cells ((digest st).map bv).toArray 28 (0, 0)) * (pts bh (.cells (st.list.map wv).toArray 74 (0, 0)) * (pts bo (.cells (List.replicate 32 (bv 0)).toArray 28 (0, 0)) * H))) := by
      have e : ((digest st).map bv).take 32 ++ (List.replicate 32 (bv 0)).drop 32 = (digest st).map bv := by
        rw [List.take_of_length_le (by rw [hdl]; omega)]; simp
      rw [e] at h; exact h
    refine ld_agg (b := b5) h hdl ?_
    refine storeN_sl (b := bo) h (aggC_28).size (vs := (digest st).map bv) (by simp [Value.cells]) hdl (bv_one _) (by simp) fun w h => ?_
    have h : sat E w (pts bo (.cells ((digest st).map bv).toArray 28 (0, 0)) * (pts b5 (.cells ((digest st).map bv).toArray 28 (0, 0)) * (pts bh (.cells (st.list.map wv).toArray 74 (0, 0)) * H))) := by
      have e : (List.replicate 32 (bv 0)).take 0 ++ (digest st).map bv ++ (List.replicate 32 (bv 0)).drop (0 + 32) = (digest st).map bv := by simp
      rw [e] at h; exact h
    exact res_agg (b := bo) h hdl (k _ h.drop.drop.drop)
end Go.Proofs.YtmnaalpjhkkglaaGreatDoor

/-
  Tags: keys filled to a block, the code's and the reference's; links of a chain; hashes compared.
-/
set_option linter.all false
set_option maxRecDepth 10000
namespace Go.Proofs.YtmnaalpjhkkglaaGreatDoor
open Go Hold
variable {E : World0} {w : World} {H R : HP} {K : Value → World → Prop}
def key0 (key : List UInt8) : List UInt8 := if 64 < key.length then sha key else key
def filled (key : List UInt8) : List UInt8 := key0 key ++ List.replicate (64 - (key0 key).length) 0
def tag (key b : List UInt8) : List UInt8 := sha ((filled key).map (· ^^^ 92) ++ sha ((filled key).map (· ^^^ 54) ++ b))
theorem key0_length (key : List UInt8) : (key0 key).length ≤ 64 := by
  unfold key0; split
  · rw [sha_length]; omega
  · omega
theorem filled_length (key : List UInt8) : (filled key).length = 64 := by
  have := key0_length key
  simp [filled]; omega
theorem tag_length (key b : List UInt8) : (tag key b).length = 32 := sha_length _
/-- A hash in a block of its own. -/
theorem hash_var (h : sat E w H) {l : List UInt8} (hl : l.length = 32) {K : Value → World → Prop}
    (k : ∀ b w', sat E w' (pts b (.cells (l.map bv).toArray 28 (0, 0)) * H) → K (.pointer (some ⟨b, 0, none⟩)) w') :
    efv prog (Instr.alloc 28 true (.tuple #[])) w fun x w => efu prog (Instr.storeAt 28 x (.agg (l.map bv).toArray)) w fun _ w => K x w := by
  refine alloc_sl h fun b w h => ?_
  have h : sat E w (pts b (.cells (List.replicate 32 (bv 0)).toArray 28 (0, 0)) * H) := h
  refine storeN_sl (b := b) h (aggC_28).size (vs := l.map bv) (by simp [Value.cells]) (by simpa using hl) (bv_one _) (by simp) fun w h => ?_
  have e : (List.replicate 32 (bv 0)).take 0 ++ l.map bv ++ (List.replicate 32 (bv 0)).drop (0 + 32) = l.map bv := by simp
  rw [e] at h
  exact k b w h
/-- A hash is stored into its result, and handed back. -/
theorem hash_ret (h : sat E w H) {b : Nat} {l ol : List UInt8} (hl : l.length = 32) (hol : ol.length = 32) [Own H b (.cells (ol.map bv).toArray 28 (0, 0)) R] {K : Value → World → Prop}
    (k : ∀ w', sat E w' (pts b (.cells (l.map bv).toArray 28 (0, 0)) * R) → K (.agg (l.map bv).toArray) w') :
    efu prog (Instr.storeAt 28 (.pointer (some ⟨b, 0, none⟩)) (.agg (l.map bv).toArray)) w fun _ w =>
      ∃ r, (do loadVar 28 (← asAddr (.pointer (some ⟨b, 0, none⟩)))).run prog w = .ok r w ∧ K r w := by
  refine storeN_sl (b := b) h (aggC_28).size (vs := l.map bv) (by simp [Value.cells]) (by simpa using hl) (bv_one _) (by simp [hol]) fun w h => ?_
  have e : (ol.map bv).take 0 ++ l.map bv ++ (ol.map bv).drop (0 + 32) = l.map bv := by
    rw [List.drop_eq_nil_of_le (by simp [hol])]; simp
  rw [e] at h
  exact res_agg (b := b) h (by simpa using hl) (k _ h)
theorem rds_block {b e : Nat} {n c : Nat} {xs : List Value} {fr : Nat × Nat} [hb : Has H b (.cells xs.toArray e fr)] (hc : n ≤ c) : Rds H (.slice (some ⟨b, 0, none⟩) n c) n xs := fun E w hs =>
  ⟨_, c, rfl, hc, .inr ⟨b, 0, _, _, _, rfl, hb.get hs, fun j v hj => by simpa using hj⟩⟩
theorem take_get {l : List UInt8} {i : Nat} (h : i < l.length) : l.take (i + 1) = l.take i ++ [l.getD i 0] := by
  rw [List.take_succ_eq_append_getElem h]
  simp [List.getD_eq_getElem?_getD, h]
theorem take_bv {l : List UInt8} {i : Nat} (h : i < l.length) : (l.take i).map bv ++ [bv (l.getD i 0)] = (l.take (i + 1)).map bv := by
  rw [take_get h, List.map_append]; rfl
theorem Chain_spec (h : sat E w H) {l b : List UInt8} (hl : l.length = 32) {v : Value} (hb : Rds H v b.length (b.map bv)) (hbl : b.length + 32 ≤ 140737488355000) (k : ∀ w', sat E w' H → K (.agg ((sha (l ++ b)).map bv).toArray) w') : Calls prog 51 #[.agg (l.map bv).toArray, v] w (Ret K) := by
  obtain ⟨a, c, rfl, hc, hb, ha⟩ := hb.shape h
  refine c51 ?_
  unfold B51
  refine box_sl h fun b1 w h => ?_
  have h : sat E w (pts b1 (.cells (l.map bv).toArray 28 (0, 0)) * H) := h
  refine alloc_sl h fun b2 w h => ?_
  have h : sat E w (pts b2 (.cells ((List.replicate 32 (0 : UInt8)).map bv).toArray 28 (0, 0)) * (pts b1 (.cells (l.map bv).toArray 28 (0, 0)) * H)) := h
  rw [o_sliceA]
  refine append_full h (xs := l.map bv) (by simpa using hl) (rds_block (b := b1) (Nat.le_refl _)) (b.map bv) (by simp) (hb.win h.drop.drop) (bv_one b) (by omega) (by omega) fun v3 w X h hv3 => ?_
  refine Sum_spec (b := l ++ b) h (by rw [List.length_append, hl, List.map_append]; exact hv3) (by simp; omega) fun w h => ?_
  exact hash_ret (b := b2) h (sha_length _) (by simp) fun w h => k _ h.drop.drop.drop
end Go.Proofs.YtmnaalpjhkkglaaGreatDoor

/-
  Sealed texts, plainly. No program in sight.
-/
set_option linter.all false
set_option maxRecDepth 100000
namespace Go.Proofs.YtmnaalpjhkkglaaGreatDoor
open Go Hold
abbrev Bs := List UInt8
/-- A number in eight bytes. -/
def eightB (n : Nat) : Bs := (List.range 8).map fun i => UInt8.ofNat (n / 2 ^ (56 - 8 * i))
theorem eightB_length (n : Nat) : (eightB n).length = 8 := by simp [eightB]
/-- The stream's block of that number. -/
def blockB (k : Bs) (n i : Nat) : Bs := tag k ([115] ++ (eightB n ++ eightB i))
theorem blockB_length (k : Bs) (n i : Nat) : (blockB k n i).length = 32 := tag_length _ _
/-- So many blocks of it. -/
def streamB (k : Bs) (n : Nat) : Nat → Bs
  | 0 => []
  | j + 1 => streamB k n j ++ blockB k n j
theorem streamB_length (k : Bs) (n : Nat) : ∀ j, (streamB k n j).length = 32 * j
  | 0 => rfl
  | j + 1 => by simp only [streamB, List.length_append, streamB_length k n j, blockB_length]; omega
def blocksN (m : Nat) : Nat := (m + 31) / 32
def streamN (k : Bs) (n m : Nat) : Bs := (streamB k n (blocksN m)).take m
theorem streamN_length (k : Bs) (n m : Nat) : (streamN k n m).length = m := by
  unfold streamN; rw [List.length_take, streamB_length]; unfold blocksN; omega
def xorB (a b : Bs) : Bs := List.zipWith (· ^^^ ·) a b
theorem xorB_length (a b : Bs) (h : a.length = b.length) : (xorB a b).length = b.length := by unfold xorB; rw [List.length_zipWith]; omega
def hideB (k : Bs) (n : Nat) (b : Bs) : Bs := xorB (streamN k n b.length) b
theorem hideB_length (k : Bs) (n : Nat) (b : Bs) : (hideB k n b).length = b.length := xorB_length _ _ (streamN_length _ _ _)
theorem xorB_twice : ∀ (a b : Bs), a.length = b.length → xorB a (xorB a b) = b
  | [], [], _ => rfl
  | x :: a, y :: b, h => by
    have := xorB_twice a b (by simpa using h)
    unfold xorB at this ⊢
    simp only [List.zipWith_cons_cons, this, List.cons.injEq, and_true]
    rw [← UInt8.xor_assoc, UInt8.xor_self, UInt8.zero_xor]
  | [], _ :: _, h => by simp at h
  | _ :: _, [], h => by simp at h
theorem hideB_twice (k : Bs) (n : Nat) (b : Bs) : hideB k n (hideB k n b) = b := by
  unfold hideB
  rw [xorB_length _ _ (streamN_length _ _ _)]
  exact xorB_twice _ _ (streamN_length _ _ _)
def tagB (k body : Bs) : Bs := (tag k (116 :: body)).take 16
theorem tagB_length (k body : Bs) : (tagB k body).length = 16 := by unfold tagB; rw [List.length_take, tag_length]; rfl
def bodyB (k : Bs) (n : Nat) (p : Bs) : Bs := eightB n ++ hideB k n p
theorem bodyB_length (k : Bs) (n : Nat) (p : Bs) : (bodyB k n p).length = 8 + p.length := by unfold bodyB; rw [List.length_append, eightB_length, hideB_length]
def sealB (k : Bs) (n : Nat) (p : Bs) : Bs := bodyB k n p ++ tagB k (bodyB k n p)
theorem sealB_length (k : Bs) (n : Nat) (p : Bs) : (sealB k n p).length = p.length + 24 := by unfold sealB; rw [List.length_append, bodyB_length, tagB_length]; omega
/-- The number that bytes tell. -/
def onceB (b : Bs) : Nat := b.foldl (fun n x => (n * 256 + x.toNat) % 18446744073709551616) 0
theorem onceB_snoc (b : Bs) (x : UInt8) : onceB (b ++ [x]) = (onceB b * 256 + x.toNat) % 18446744073709551616 := by unfold onceB; rw [List.foldl_append]; rfl
theorem onceB_lt (b : Bs) : onceB b < 18446744073709551616 := by
  rcases List.eq_nil_or_concat b with rfl | ⟨b, x, rfl⟩
  · decide
  · rw [List.concat_eq_append, onceB_snoc]; exact Nat.mod_lt _ (by decide)
theorem once_eight {n : Nat} (h : n < 18446744073709551616) : onceB (eightB n) = n := by
  have key : ∀ i, i ≤ 8 → onceB ((List.range i).map fun i => UInt8.ofNat (n / 2 ^ (56 - 8 * i))) = n / 2 ^ (64 - 8 * i) := by
    intro i
    induction i with
    | zero => intro _; simp [onceB]; omega
    | succ i ih =>
      intro hi
      rw [List.range_succ, List.map_append, List.map_singleton, onceB_snoc, ih (by omega), UInt8.toNat_ofNat']
      have e1 : 64 - 8 * i = (56 - 8 * i) + 8 := by omega
      have e2 : 64 - 8 * (i + 1) = 56 - 8 * i := by omega
      rw [e1, e2, Nat.pow_add, ← Nat.div_div_eq_div_mul]
      have hm : n / 2 ^ (56 - 8 * i) < 18446744073709551616 := Nat.lt_of_le_of_lt (Nat.div_le_self _ _) h
      generalize n / 2 ^ (56 - 8 * i) = m at hm
      show (m / 256 * 256 + m % 256) % _ = m
      omega
  have := key 8 (Nat.le_refl _)
  simpa [eightB] using this
end Go.Proofs.YtmnaalpjhkkglaaGreatDoor
