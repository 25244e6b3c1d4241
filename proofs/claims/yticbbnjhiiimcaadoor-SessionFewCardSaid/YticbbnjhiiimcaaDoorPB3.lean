import Derived.Test.YticbbnjhiiimcaaDoorPI
set_option linter.all false
set_option maxRecDepth 100000
namespace Go.Proofs.YticbbnjhiiimcaaDoor
open Go Hold
-- 25 (*holdfast/holdfastref11.Table).Begin
def T25 : Ann := (.seq .none (.seq (.seq .none (.seq (.seq .none .none) .none)) (.seq (.seq .none (.seq (.seq .none .none) .none)) (.seq (.seq .none (.seq .none (.seq (.seq .none .none) .none))) (.seq (.seq .none (.seq (.seq .none .none) .none)) (.seq .none (.seq (.seq .none (.block (.loop 9444732964639778801152 [9, 10] (.seq (.seq .none (.seq .none .none)) (.meet 9444732402789337006592 [9] (.block (.seq (.draw [.op 0 .pure, .op 1 .pure, .op 2 .pure, .op 4 .pure, .op 3 .load, .op 5 .pure, .op 6 .pure, .op 7 .load, .op 8 .load, .op 9 .pure, .op 10 .pure, .op 11 .pure, .op 12 .pure, .op 13 .pure, .op 15 .pure, .op 18 .pure, .op 14 .load, .op 16 .pure, .op 17 .load, .op 19 .eff, .op 20 .pure, .op 21 .pure]) (.seq .none .none))) .none))))) (.seq (.seq .none (.seq (.seq .none .none) .none)) (.seq (.draw [.op 0 .pure, .op 1 .pure, .op 2 .pure, .op 5 .pure, .op 6 .pure, .op 3 .load, .op 4 .load, .op 7 .pure, .op 8 .eff, .op 9 .eff]) (.seq .none (.seq .none (.seq .none (.seq .none (.seq .none (.seq .none .none)))))))))))))))
theorem T25_ok : chkFn prog Tryd.f25 T25 = true := by kernel_rfl
def B25 (t_p0 o_p1 now_p2 : Value) (w : World) (K : Value → World → Prop) : Prop :=
  efv prog (Instr.box 23 o_p1) w fun o_0 w =>
  efv prog (Instr.alloc 25 true (.tuple #[])) w fun t_1 w =>
  pvv prog (oEq .eql 45 (.tmp 13) (.const (.pointer none)) t_p0 (.pointer none)) w fun t_2 w =>
  cd t_2 (
    pvv prog (Instr.build 25 #[]) w fun t_3 w =>
    efu prog (Instr.storeAt 25 t_1 t_3) w fun u_4 w =>
    ∃ r_5, (do loadVar 25 (← asAddr t_1)).run prog w = .ok r_5 w ∧ K (.tuple #[r_5, (.int .i64 1)]) w) <|
  pvv prog (Instr.fieldAt 23 o_0 0) w fun t_6 w =>
  ldv prog (Instr.loadAt 9 t_6) w fun t_7 w =>
  Calls prog 40 #[t_7] w (Ret fun t_8 w =>
  pvv prog (Op.unary .not t_8) w fun t_9 w =>
  gate (some (t_9, false)) (fun K => pvv prog (Instr.fieldAt 23 o_0 1) w K) w fun t_10 w =>
  gate (some (t_9, false)) (fun K => ldv prog (Instr.loadAt 9 t_10) w K) w fun t_11 w =>
  gate (some (t_9, false)) (fun K => Calls prog 40 #[t_11] w (Ret K)) w fun t_12 w =>
  gate (some (t_9, false)) (fun K => pvv prog (Op.unary .not t_12) w K) w fun t_13 w =>
  pv prog (oPick t_9 (.bool true) t_13) w fun t_14 w =>
  cd t_14 (
    pvv prog (Instr.build 25 #[]) w fun t_15 w =>
    efu prog (Instr.storeAt 25 t_1 t_15) w fun u_16 w =>
    ∃ r_17, (do loadVar 25 (← asAddr t_1)).run prog w = .ok r_17 w ∧ K (.tuple #[r_17, (.int .i64 8)]) w) <|
  Calls prog 41 #[t_p0, now_p2] w (Ret fun t_18 w =>
  pvv prog (oEq .neq 34 (.tmp 30) (.const (.int .i64 0)) t_18 (.int .i64 0)) w fun t_19 w =>
  cd t_19 (
    pvv prog (Instr.build 25 #[]) w fun t_20 w =>
    efu prog (Instr.storeAt 25 t_1 t_20) w fun u_21 w =>
    ∃ r_22, (do loadVar 25 (← asAddr t_1)).run prog w = .ok r_22 w ∧ K (.tuple #[r_22, t_18]) w) <|
  pv prog (oNil t_p0) w fun t_23 w =>
  pvv prog (Instr.fieldAt 63 t_23 0) w fun t_24 w =>
  ldv prog (Instr.loadAt 3 t_24) w fun t_25 w =>
  pvv prog (binOp .gtr 3 t_25 (.int .i64 1099511627776)) w fun t_26 w =>
  cd t_26 (
    pvv prog (Instr.build 25 #[]) w fun t_27 w =>
    efu prog (Instr.storeAt 25 t_1 t_27) w fun u_28 w =>
    ∃ r_29, (do loadVar 25 (← asAddr t_1)).run prog w = .ok r_29 w ∧ K (.tuple #[r_29, (.int .i64 7)]) w) <|
  lp (fun σ w again_32 => pop σ fun n_30 σ => pop σ fun i_31 σ => fin σ <|
    pv prog (oNil t_p0) w fun t_33 w =>
    pvv prog (Instr.fieldAt 63 t_33 2) w fun t_34 w =>
    ldv prog (Instr.loadAt 37 t_34) w fun t_35 w =>
    pv prog (oBi .len #[37] 3 #[false] #[t_35]) w fun t_36 w =>
    pvv prog (binOp .lss 3 i_31 t_36) w fun t_37 w =>
    cd t_37 (
      jn (fun σ w => pop σ fun n_38 σ => fin σ <|
        pvv prog (binOp .add 3 i_31 (.int .i64 1)) w fun t_39 w =>
        again_32 [n_38, t_39] w) fun k_40 =>
      dr w fun w =>
      pv prog (oNil t_p0) w fun t_41 w =>
      pvv prog (Instr.fieldAt 63 t_41 2) w fun t_42 w =>
      bindS (vN (Instr.loadAt 37 t_42)) fun m_44 => ldv prog (Instr.loadAt 37 t_42) w fun t_43 w =>
      pvv prog (Instr.indexAt 37 t_43 i_31) w fun t_45 w =>
      pvv prog (Instr.fieldAt 25 t_45 1) w fun t_46 w =>
      bindS (vN (Instr.loadAt 23 t_46)) fun m_48 => ldv prog (Instr.loadAt 23 t_46) w fun t_47 w =>
      bindS (vN (Instr.loadAt 23 o_0)) fun m_50 => ldv prog (Instr.loadAt 23 o_0) w fun t_49 w =>
      pvv prog (oEq .eql 23 (.tmp 56) (.tmp 57) t_47 t_49) w fun t_51 w =>
      gate (some (t_51, true)) (fun K => K t_p0 w) w fun t_52 w =>
      gate (some (t_51, true)) (fun K => pv prog (oNil t_52) w K) w fun t_53 w =>
      gate (some (t_51, true)) (fun K => pvv prog (Instr.fieldAt 63 t_53 2) w K) w fun t_54 w =>
      gate (some (t_51, true)) (fun K => K i_31 w) w fun t_55 w =>
      gate (some (t_51, true)) (fun K => K now_p2 w) w fun t_56 w =>
      bindS (vN (Instr.loadAt 37 t_54)) fun m_58 => gate (some (t_51, true)) (fun K => ldv prog (Instr.loadAt 37 t_54) w K) w fun t_57 w =>
      gate (some (t_51, true)) (fun K => pvv prog (Instr.indexAt 37 t_57 t_55) w K) w fun t_59 w =>
      bindS (vN (Instr.loadAt 25 t_59)) fun m_61 => gate (some (t_51, true)) (fun K => ldv prog (Instr.loadAt 25 t_59) w K) w fun t_60 w =>
      gate (some (t_51, true)) (fun K => Calls prog 42 #[t_60, t_56] w (Ret fun s_66 w => stay prog (some (t_51, true)) m_58 t_57 w <| stay prog none m_50 t_49 w <| stay prog none m_48 t_47 w <| stay prog none m_44 t_43 w <| K s_66 w)) w fun t_62 w =>
      gate (some (t_51, true)) (fun K => pvv prog (Op.unary .not t_62) w K) w fun t_63 w =>
      pv prog (oPick t_51 t_63 (.bool false)) w fun t_64 w =>
      cd t_64 (
        pvv prog (binOp .add 3 n_30 (.int .i64 1)) w fun t_65 w =>
        k_40 [t_65] w) <|
      k_40 [n_30] w) <|
    pvv prog (binOp .geq 3 n_30 (.int .i64 3)) w fun t_67 w =>
    cd t_67 (
      pvv prog (Instr.build 25 #[]) w fun t_68 w =>
      efu prog (Instr.storeAt 25 t_1 t_68) w fun u_69 w =>
      ∃ r_70, (do loadVar 25 (← asAddr t_1)).run prog w = .ok r_70 w ∧ K (.tuple #[r_70, (.int .i64 22)]) w) <|
    dr w fun w =>
    pv prog (oNil t_p0) w fun t_71 w =>
    pvv prog (Instr.fieldAt 63 t_71 0) w fun t_72 w =>
    bindS (vN (Instr.loadAt 3 t_72)) fun m_74 => ldv prog (Instr.loadAt 3 t_72) w fun t_73 w =>
    bindS (vN (Instr.loadAt 23 o_0)) fun m_76 => ldv prog (Instr.loadAt 23 o_0) w fun t_75 w =>
    pvv prog (Instr.build 25 #[(0, t_73), (1, t_75), (2, now_p2), (3, now_p2)]) w fun t_77 w =>
    efv prog (Instr.alloc 25 true (.tuple #[])) w fun s_78 w => stay prog none m_76 t_75 w <| stay prog none m_74 t_73 w <| 
    efu prog (Instr.storeAt 25 s_78 t_77) w fun u_79 w =>
    pv prog (oNil t_p0) w fun t_80 w =>
    pvv prog (Instr.fieldAt 63 t_80 0) w fun t_81 w =>
    ldv prog (Instr.loadAt 3 t_81) w fun t_82 w =>
    pvv prog (binOp .add 3 t_82 (.int .i64 1)) w fun t_83 w =>
    pv prog (oNil t_p0) w fun t_84 w =>
    pvv prog (Instr.fieldAt 63 t_84 0) w fun t_85 w =>
    efu prog (Instr.storeAt 3 t_85 t_83) w fun u_86 w =>
    pv prog (oNil t_p0) w fun t_87 w =>
    pvv prog (Instr.fieldAt 63 t_87 1) w fun t_88 w =>
    efu prog (Instr.storeAt 3 t_88 now_p2) w fun u_89 w =>
    pv prog (oNil t_p0) w fun t_90 w =>
    pvv prog (Instr.fieldAt 63 t_90 2) w fun t_91 w =>
    ldv prog (Instr.loadAt 37 t_91) w fun t_92 w =>
    ef prog (oBi .append #[37, 37] 37 #[false, false] #[(.slice none 0 0), t_92]) w fun t_93 w =>
    ldv prog (Instr.loadAt 25 s_78) w fun t_94 w =>
    efv prog (Instr.buildSlice 37 1 #[(0, t_94)]) w fun t_95 w =>
    ef prog (oBi .append #[37, 37] 37 #[false, false] #[t_93, t_95]) w fun t_96 w =>
    pv prog (oNil t_p0) w fun t_97 w =>
    pvv prog (Instr.fieldAt 63 t_97 2) w fun t_98 w =>
    efu prog (Instr.storeAt 37 t_98 t_96) w fun u_99 w =>
    ldv prog (Instr.loadAt 25 s_78) w fun t_100 w =>
    efu prog (Instr.storeAt 25 t_1 t_100) w fun u_101 w =>
    ∃ r_102, (do loadVar 25 (← asAddr t_1)).run prog w = .ok r_102 w ∧ K (.tuple #[r_102, (.int .i64 0)]) w) [(.int .i64 0), (.int .i64 0)] w))
theorem B25_eq (t_p0 o_p1 now_p2 : Value) (w : World) (K : Value → World → Prop) : denFn prog Tryd.f25 T25 [t_p0, o_p1, now_p2] w K = B25 t_p0 o_p1 now_p2 w K := by kernel_rfl
theorem c25 {t_p0 o_p1 now_p2 : Value} {w : World} {K : Value → World → Prop} (h : B25 t_p0 o_p1 now_p2 w K) : Calls prog 25 #[t_p0, o_p1, now_p2] w (Ret K) :=
  denFn_calls Tryd.func25 T25_ok (Eq.mpr (B25_eq t_p0 o_p1 now_p2 w K) h)

-- 4 holdfast/holdfastlaw11.SessionApart
def T4 : Ann := (.seq .none (.seq .none (.seq (.seq .none (.seq (.seq .none .none) .none)) (.seq .none (.seq .none (.seq (.seq .none (.block (.loop 309485009821345068691258896 [9, 10] (.seq (.seq .none (.seq .none .none)) (.meet 309485009821345034365073936 [9] (.block (.seq .none (.seq (.seq .none (.seq (.seq .none .none) .none)) (.seq .none (.seq .none (.seq .none (.seq (.seq .none .none) .none))))))) .none))))) (.seq .none (.seq .none (.seq .none .none)))))))))
theorem T4_ok : chkFn prog Tryd.f4 T4 = true := by kernel_rfl
def B4 (times_p0 who_p1 : Value) (w : World) (K : Value → World → Prop) : Prop :=
  Calls prog 11 #[] w (Ret fun t_0 w =>
  Calls prog 11 #[] w (Ret fun t_1 w =>
  Calls prog 8 #[] w (Ret fun t_2 w =>
  pvv prog (Op.unary .not t_2) w fun t_3 w =>
  cd t_3 (
    K (.bool false) w) <|
  pvv prog (Instr.build 23 #[(0, (.string ⟨#[116]⟩)), (1, (.string ⟨#[117]⟩))]) w fun t_4 w =>
  pvv prog (Instr.build 23 #[(0, (.string ⟨#[116]⟩)), (1, (.string ⟨#[118]⟩))]) w fun t_5 w =>
  efv prog (Instr.alloc 23 true (.tuple #[])) w fun o_6 w =>
  efv prog (Instr.alloc 23 true (.tuple #[])) w fun p_7 w =>
  efu prog (Instr.storeAt 23 o_6 t_4) w fun u_8 w =>
  efu prog (Instr.storeAt 23 p_7 t_5) w fun u_9 w =>
  lp (fun σ w again_12 => pop σ fun now_10 σ => pop σ fun i_11 σ => fin σ <|
    pv prog (oBi .len #[29] 3 #[false] #[times_p0]) w fun t_13 w =>
    pvv prog (binOp .lss 3 i_11 t_13) w fun t_14 w =>
    gate (some (t_14, true)) (fun K => K i_11 w) w fun t_15 w =>
    gate (some (t_14, true)) (fun K => pvv prog (binOp .lss 3 t_15 (.int .i64 40)) w K) w fun t_16 w =>
    pv prog (oPick t_14 t_16 (.bool false)) w fun t_17 w =>
    cd t_17 (
      jn (fun σ w => pop σ fun now_18 σ => fin σ <|
        pvv prog (binOp .add 3 i_11 (.int .i64 1)) w fun t_19 w =>
        again_12 [now_18, t_19] w) fun k_20 =>
      pvv prog (Instr.indexAt 29 times_p0 i_11) w fun t_21 w =>
      ldv prog (Instr.loadAt 33 t_21) w fun t_22 w =>
      pvv prog (convert 33 3 t_22) w fun t_23 w =>
      pvv prog (binOp .rem 3 t_23 (.int .i64 150)) w fun t_24 w =>
      pvv prog (binOp .add 3 now_10 t_24) w fun t_25 w =>
      pv prog (oBi .len #[30] 3 #[false] #[who_p1]) w fun t_26 w =>
      pvv prog (binOp .lss 3 i_11 t_26) w fun t_27 w =>
      gate (some (t_27, true)) (fun K => K who_p1 w) w fun t_28 w =>
      gate (some (t_27, true)) (fun K => K i_11 w) w fun t_29 w =>
      gate (some (t_27, true)) (fun K => pvv prog (Instr.indexAt 30 t_28 t_29) w K) w fun t_30 w =>
      gate (some (t_27, true)) (fun K => ldv prog (Instr.loadAt 4 t_30) w K) w fun t_31 w =>
      pv prog (oPick t_27 t_31 (.bool false)) w fun t_32 w =>
      cd t_32 (
        ldv prog (Instr.loadAt 23 p_7) w fun t_33 w =>
        Calls prog 12 #[t_0, t_33, t_25] w (Ret fun t_34 w =>
        k_20 [t_25] w)) <|
      ldv prog (Instr.loadAt 23 o_6) w fun t_35 w =>
      Calls prog 12 #[t_0, t_35, t_25] w (Ret fun t_36 w =>
      pvv prog (Instr.extract t_36 0) w fun t_37 w =>
      pvv prog (Instr.extract t_36 1) w fun t_38 w =>
      efv prog (Instr.alloc 25 true (.tuple #[])) w fun x_39 w =>
      efu prog (Instr.storeAt 25 x_39 t_37) w fun u_40 w =>
      ldv prog (Instr.loadAt 23 o_6) w fun t_41 w =>
      Calls prog 12 #[t_1, t_41, t_25] w (Ret fun t_42 w =>
      pvv prog (Instr.extract t_42 0) w fun t_43 w =>
      pvv prog (Instr.extract t_42 1) w fun t_44 w =>
      efv prog (Instr.alloc 25 true (.tuple #[])) w fun y_45 w =>
      efu prog (Instr.storeAt 25 y_45 t_43) w fun u_46 w =>
      pvv prog (oEq .neq 34 (.tmp 71) (.tmp 72) t_38 t_44) w fun t_47 w =>
      gate (some (t_47, false)) (fun K => pvv prog (Instr.fieldAt 25 x_39 2) w K) w fun t_48 w =>
      gate (some (t_47, false)) (fun K => ldv prog (Instr.loadAt 3 t_48) w K) w fun t_49 w =>
      gate (some (t_47, false)) (fun K => pvv prog (Instr.fieldAt 25 y_45 2) w K) w fun t_50 w =>
      gate (some (t_47, false)) (fun K => ldv prog (Instr.loadAt 3 t_50) w K) w fun t_51 w =>
      gate (some (t_47, false)) (fun K => pvv prog (oEq .neq 3 (.tmp 76) (.tmp 78) t_49 t_51) w K) w fun t_52 w =>
      pv prog (oPick t_47 (.bool true) t_52) w fun t_53 w =>
      gate (some (t_53, false)) (fun K => pvv prog (Instr.fieldAt 25 x_39 1) w K) w fun t_54 w =>
      gate (some (t_53, false)) (fun K => ldv prog (Instr.loadAt 23 t_54) w K) w fun t_55 w =>
      gate (some (t_53, false)) (fun K => pvv prog (Instr.fieldAt 25 y_45 1) w K) w fun t_56 w =>
      gate (some (t_53, false)) (fun K => ldv prog (Instr.loadAt 23 t_56) w K) w fun t_57 w =>
      gate (some (t_53, false)) (fun K => pvv prog (oEq .neq 23 (.tmp 83) (.tmp 85) t_55 t_57) w K) w fun t_58 w =>
      pv prog (oPick t_53 (.bool true) t_58) w fun t_59 w =>
      cd t_59 (
        K (.bool false) w) <|
      k_20 [t_25] w))) <|
    ldv prog (Instr.loadAt 23 o_6) w fun t_60 w =>
    Calls prog 13 #[t_0, t_60, now_10] w (Ret fun t_61 w =>
    pvv prog (Instr.extract t_61 0) w fun t_62 w =>
    pvv prog (Instr.extract t_61 1) w fun t_63 w =>
    ldv prog (Instr.loadAt 23 o_6) w fun t_64 w =>
    Calls prog 13 #[t_1, t_64, now_10] w (Ret fun t_65 w =>
    pvv prog (Instr.extract t_65 0) w fun t_66 w =>
    pvv prog (Instr.extract t_65 1) w fun t_67 w =>
    pvv prog (oEq .eql 34 (.tmp 102) (.const (.int .i64 0)) t_63 (.int .i64 0)) w fun t_68 w =>
    gate (some (t_68, true)) (fun K => K t_67 w) w fun t_69 w =>
    gate (some (t_68, true)) (fun K => pvv prog (oEq .eql 34 (.tmp 105) (.const (.int .i64 0)) t_69 (.int .i64 0)) w K) w fun t_70 w =>
    pv prog (oPick t_68 t_70 (.bool false)) w fun t_71 w =>
    gate (some (t_71, true)) (fun K => K t_62 w) w fun t_72 w =>
    gate (some (t_71, true)) (fun K => pv prog (oBi .len #[37] 3 #[false] #[t_72]) w K) w fun t_73 w =>
    gate (some (t_71, true)) (fun K => K t_66 w) w fun t_74 w =>
    gate (some (t_71, true)) (fun K => pv prog (oBi .len #[37] 3 #[false] #[t_74]) w K) w fun t_75 w =>
    gate (some (t_71, true)) (fun K => pvv prog (oEq .eql 3 (.tmp 110) (.tmp 112) t_73 t_75) w K) w fun t_76 w =>
    pv prog (oPick t_71 t_76 (.bool false)) w fun t_77 w =>
    K t_77 w))) [(.int .i64 0), (.int .i64 0)] w)))
theorem B4_eq (times_p0 who_p1 : Value) (w : World) (K : Value → World → Prop) : denFn prog Tryd.f4 T4 [times_p0, who_p1] w K = B4 times_p0 who_p1 w K := by kernel_rfl
theorem c4 {times_p0 who_p1 : Value} {w : World} {K : Value → World → Prop} (h : B4 times_p0 who_p1 w K) : Calls prog 4 #[times_p0, who_p1] w (Ret K) :=
  denFn_calls Tryd.func4 T4_ok (Eq.mpr (B4_eq times_p0 who_p1 w K) h)

-- 75 slices.partitionEqualOrdered[int]
def T75 : Ann := (.seq .none (.seq (.draw [.op 0 .pure, .op 1 .pure, .op 2 .pure, .op 3 .pure, .op 4 .pure, .op 5 .pure, .op 6 .pure, .op 8 .pure, .op 9 .pure, .op 10 .pure, .op 7 .load, .op 11 .load, .op 12 .pure, .op 13 .eff, .op 14 .pure, .op 15 .eff]) (.seq .none (.seq (.block (.loop 9671406556917032860780032 [9, 10] (.block (.seq (.block (.loop 70368207307264 [9] (.seq (.seq (.draw [.op 0 .pure, .op 1 .pure, .op 2 .pure, .op 3 .pure, .op 4 .pure, .op 5 .pure, .op 6 .pure, .op 8 .pure, .op 9 .pure, .op 10 .pure, .op 7 .load, .op 11 .load, .op 12 .eff, .op 13 .pure, .op 14 .pure]) (.seq .none .none)) (.block .none)))) (.seq (.block (.loop 4611615649683211264 [10] (.seq (.seq (.draw [.op 0 .pure, .op 1 .pure, .op 2 .pure, .op 3 .pure, .op 4 .pure, .op 5 .pure, .op 6 .pure, .op 8 .pure, .op 9 .pure, .op 10 .pure, .op 7 .load, .op 11 .load, .op 12 .eff, .op 13 .pure]) (.seq .none .none)) (.block .none)))) (.seq (.seq .none (.seq .none .none)) (.seq (.draw [.op 0 .pure, .op 1 .pure, .op 2 .pure, .op 3 .pure, .op 4 .pure, .op 5 .pure, .op 6 .pure, .op 8 .pure, .op 9 .pure, .op 10 .pure, .op 7 .load, .op 11 .load, .op 12 .pure, .op 13 .eff, .op 14 .pure, .op 15 .eff]) (.seq .none .none)))))))) (.seq .none .none)))))
theorem T75_ok : chkFn prog Tryd.f75 T75 = true := by kernel_rfl
def B75 (data_p0 a_p1 b_p2 pivot_p3 : Value) (w : World) (K : Value → World → Prop) : Prop :=
  dr w fun w =>
  pvv prog (Instr.indexAt 65 data_p0 pivot_p3) w fun t_0 w =>
  pvv prog (Instr.indexAt 65 data_p0 a_p1) w fun t_1 w =>
  bindS (vN (Instr.loadAt 3 t_0)) fun m_3 => ldv prog (Instr.loadAt 3 t_0) w fun t_2 w =>
  bindS (vN (Instr.loadAt 3 t_1)) fun m_5 => ldv prog (Instr.loadAt 3 t_1) w fun t_4 w =>
  pvv prog (Instr.indexAt 65 data_p0 a_p1) w fun t_6 w =>
  efu prog (Instr.storeAt 3 t_6 t_2) w fun u_7 w =>
  pvv prog (Instr.indexAt 65 data_p0 pivot_p3) w fun t_8 w =>
  efu prog (Instr.storeAt 3 t_8 t_4) w fun u_9 w =>
  pvv prog (binOp .add 3 a_p1 (.int .i64 1)) w fun t_10 w =>
  pvv prog (binOp .sub 3 b_p2 (.int .i64 1)) w fun t_11 w =>
  lp (fun σ w again_14 => pop σ fun i_12 σ => pop σ fun j_13 σ => fin σ <|
    lp (fun σ w again_16 => pop σ fun i_15 σ => fin σ <|
      dr w fun w =>
      pvv prog (binOp .leq 3 i_15 j_13) w fun t_17 w =>
      gate (some (t_17, true)) (fun K => K data_p0 w) w fun t_18 w =>
      gate (some (t_17, true)) (fun K => K a_p1 w) w fun t_19 w =>
      gate (some (t_17, true)) (fun K => pvv prog (Instr.indexAt 65 t_18 t_19) w K) w fun t_20 w =>
      gate (some (t_17, true)) (fun K => K data_p0 w) w fun t_21 w =>
      gate (some (t_17, true)) (fun K => K i_15 w) w fun t_22 w =>
      gate (some (t_17, true)) (fun K => pvv prog (Instr.indexAt 65 t_21 t_22) w K) w fun t_23 w =>
      bindS (vN (Instr.loadAt 3 t_20)) fun m_25 => gate (some (t_17, true)) (fun K => ldv prog (Instr.loadAt 3 t_20) w K) w fun t_24 w =>
      bindS (vN (Instr.loadAt 3 t_23)) fun m_27 => gate (some (t_17, true)) (fun K => ldv prog (Instr.loadAt 3 t_23) w K) w fun t_26 w =>
      gate (some (t_17, true)) (fun K => Calls prog 74 #[t_24, t_26] w (Ret fun s_64 w => K s_64 w)) w fun t_28 w =>
      gate (some (t_17, true)) (fun K => pvv prog (Op.unary .not t_28) w K) w fun t_29 w =>
      pv prog (oPick t_17 t_29 (.bool false)) w fun t_30 w =>
      cd t_30 (
        pvv prog (binOp .add 3 i_15 (.int .i64 1)) w fun t_31 w =>
        again_16 [t_31] w) <|
      lp (fun σ w again_33 => pop σ fun j_32 σ => fin σ <|
        dr w fun w =>
        pvv prog (binOp .leq 3 i_15 j_32) w fun t_34 w =>
        gate (some (t_34, true)) (fun K => K data_p0 w) w fun t_35 w =>
        gate (some (t_34, true)) (fun K => K a_p1 w) w fun t_36 w =>
        gate (some (t_34, true)) (fun K => pvv prog (Instr.indexAt 65 t_35 t_36) w K) w fun t_37 w =>
        gate (some (t_34, true)) (fun K => K data_p0 w) w fun t_38 w =>
        gate (some (t_34, true)) (fun K => K j_32 w) w fun t_39 w =>
        gate (some (t_34, true)) (fun K => pvv prog (Instr.indexAt 65 t_38 t_39) w K) w fun t_40 w =>
        bindS (vN (Instr.loadAt 3 t_37)) fun m_42 => gate (some (t_34, true)) (fun K => ldv prog (Instr.loadAt 3 t_37) w K) w fun t_41 w =>
        bindS (vN (Instr.loadAt 3 t_40)) fun m_44 => gate (some (t_34, true)) (fun K => ldv prog (Instr.loadAt 3 t_40) w K) w fun t_43 w =>
        gate (some (t_34, true)) (fun K => Calls prog 74 #[t_41, t_43] w (Ret fun s_63 w => K s_63 w)) w fun t_45 w =>
        pv prog (oPick t_34 t_45 (.bool false)) w fun t_46 w =>
        cd t_46 (
          pvv prog (binOp .sub 3 j_32 (.int .i64 1)) w fun t_47 w =>
          again_33 [t_47] w) <|
        pvv prog (binOp .gtr 3 i_15 j_32) w fun t_48 w =>
        cd t_48 (
          K i_15 w) <|
        dr w fun w =>
        pvv prog (Instr.indexAt 65 data_p0 j_32) w fun t_49 w =>
        pvv prog (Instr.indexAt 65 data_p0 i_15) w fun t_50 w =>
        bindS (vN (Instr.loadAt 3 t_49)) fun m_52 => ldv prog (Instr.loadAt 3 t_49) w fun t_51 w =>
        bindS (vN (Instr.loadAt 3 t_50)) fun m_54 => ldv prog (Instr.loadAt 3 t_50) w fun t_53 w =>
        pvv prog (Instr.indexAt 65 data_p0 i_15) w fun t_55 w =>
        efu prog (Instr.storeAt 3 t_55 t_51) w fun u_56 w =>
        pvv prog (Instr.indexAt 65 data_p0 j_32) w fun t_57 w =>
        efu prog (Instr.storeAt 3 t_57 t_53) w fun u_58 w =>
        pvv prog (binOp .add 3 i_15 (.int .i64 1)) w fun t_59 w =>
        pvv prog (binOp .sub 3 j_32 (.int .i64 1)) w fun t_60 w =>
        again_14 [t_59, t_60] w) [j_13] w) [i_12] w) [t_10, t_11] w
theorem B75_eq (data_p0 a_p1 b_p2 pivot_p3 : Value) (w : World) (K : Value → World → Prop) : denFn prog Tryd.f75 T75 [data_p0, a_p1, b_p2, pivot_p3] w K = B75 data_p0 a_p1 b_p2 pivot_p3 w K := by kernel_rfl
theorem c75 {data_p0 a_p1 b_p2 pivot_p3 : Value} {w : World} {K : Value → World → Prop} (h : B75 data_p0 a_p1 b_p2 pivot_p3 w K) : Calls prog 75 #[data_p0, a_p1, b_p2, pivot_p3] w (Ret K) :=
  denFn_calls Tryd.func75 T75_ok (Eq.mpr (B75_eq data_p0 a_p1 b_p2 pivot_p3 w K) h)

-- 5 holdfast/holdfastlaw11.SessionLasts
def T5 : Ann := (.seq .none (.seq .none (.seq (.seq .none (.seq (.seq .none .none) .none)) (.seq .none (.seq .none (.seq (.seq .none (.seq (.seq .none .none) .none)) (.seq .none (.seq (.seq .none (.block (.loop 151115727451827573104144 [9, 10] (.seq (.seq .none (.seq .none .none)) (.seq (.block (.seq .none (.seq .none (.seq (.seq .none (.seq (.seq .none .none) .none)) (.seq (.seq .none (.seq (.seq .none .none) .none)) (.seq .none (.seq (.seq .none .none) .none))))))) .none))))) (.seq .none (.seq .none .none))))))))))
theorem T5_ok : chkFn prog Tryd.f5 T5 = true := by kernel_rfl
def B5 (times_p0 since_p1 : Value) (w : World) (K : Value → World → Prop) : Prop :=
  Calls prog 11 #[] w (Ret fun t_0 w =>
  Calls prog 8 #[] w (Ret fun t_1 w =>
  pvv prog (Op.unary .not t_1) w fun t_2 w =>
  cd t_2 (
    K (.bool false) w) <|
  pvv prog (convert 33 3 since_p1) w fun t_3 w =>
  pvv prog (Instr.build 23 #[(0, (.string ⟨#[116]⟩)), (1, (.string ⟨#[117]⟩))]) w fun t_4 w =>
  Calls prog 12 #[t_0, t_4, t_3] w (Ret fun t_5 w =>
  pvv prog (Instr.extract t_5 0) w fun t_6 w =>
  pvv prog (Instr.extract t_5 1) w fun t_7 w =>
  efv prog (Instr.alloc 25 true (.tuple #[])) w fun s_8 w =>
  efu prog (Instr.storeAt 25 s_8 t_6) w fun u_9 w =>
  pvv prog (oEq .neq 34 (.tmp 27) (.const (.int .i64 0)) t_7 (.int .i64 0)) w fun t_10 w =>
  cd t_10 (
    K (.bool false) w) <|
  lp (fun σ w again_13 => pop σ fun now_11 σ => pop σ fun i_12 σ => fin σ <|
    pv prog (oBi .len #[41] 3 #[false] #[times_p0]) w fun t_14 w =>
    pvv prog (binOp .lss 3 i_12 t_14) w fun t_15 w =>
    gate (some (t_15, true)) (fun K => K i_12 w) w fun t_16 w =>
    gate (some (t_15, true)) (fun K => pvv prog (binOp .lss 3 t_16 (.int .i64 40)) w K) w fun t_17 w =>
    pv prog (oPick t_15 t_17 (.bool false)) w fun t_18 w =>
    cd t_18 (
      pvv prog (Instr.indexAt 41 times_p0 i_12) w fun t_19 w =>
      ldv prog (Instr.loadAt 5 t_19) w fun t_20 w =>
      pvv prog (convert 5 3 t_20) w fun t_21 w =>
      pvv prog (binOp .rem 3 t_21 (.int .i64 200)) w fun t_22 w =>
      pvv prog (binOp .add 3 now_11 t_22) w fun t_23 w =>
      pvv prog (Instr.fieldAt 25 s_8 0) w fun t_24 w =>
      ldv prog (Instr.loadAt 3 t_24) w fun t_25 w =>
      Calls prog 14 #[t_0, t_25, t_23] w (Ret fun t_26 w =>
      pvv prog (Instr.extract t_26 0) w fun t_27 w =>
      pvv prog (Instr.extract t_26 1) w fun t_28 w =>
      efv prog (Instr.alloc 25 true (.tuple #[])) w fun x_29 w =>
      efu prog (Instr.storeAt 25 x_29 t_27) w fun u_30 w =>
      pvv prog (oEq .eql 34 (.tmp 56) (.const (.int .i64 0)) t_28 (.int .i64 0)) w fun t_31 w =>
      pvv prog (binOp .add 3 t_3 (.int .i64 1000)) w fun t_32 w =>
      pvv prog (binOp .lss 3 t_23 t_32) w fun t_33 w =>
      pvv prog (oEq .neq 4 (.tmp 57) (.tmp 61) t_31 t_33) w fun t_34 w =>
      cd t_34 (
        K (.bool false) w) <|
      pvv prog (oEq .neq 34 (.tmp 63) (.const (.int .i64 0)) t_28 (.int .i64 0)) w fun t_35 w =>
      cd t_35 (
        pvv prog (oEq .eql 34 (.tmp 65) (.const (.int .i64 12)) t_28 (.int .i64 12)) w fun t_36 w =>
        K t_36 w) <|
      pvv prog (Instr.fieldAt 25 x_29 3) w fun t_37 w =>
      ldv prog (Instr.loadAt 3 t_37) w fun t_38 w =>
      pvv prog (oEq .neq 3 (.tmp 68) (.tmp 69) t_38 t_23) w fun t_39 w =>
      gate (some (t_39, false)) (fun K => pvv prog (Instr.fieldAt 25 x_29 2) w K) w fun t_40 w =>
      gate (some (t_39, false)) (fun K => ldv prog (Instr.loadAt 3 t_40) w K) w fun t_41 w =>
      gate (some (t_39, false)) (fun K => K t_3 w) w fun t_42 w =>
      gate (some (t_39, false)) (fun K => pvv prog (oEq .neq 3 (.tmp 73) (.tmp 74) t_41 t_42) w K) w fun t_43 w =>
      pv prog (oPick t_39 (.bool true) t_43) w fun t_44 w =>
      cd t_44 (
        K (.bool false) w) <|
      pvv prog (binOp .add 3 i_12 (.int .i64 1)) w fun t_45 w =>
      again_13 [t_23, t_45] w)) <|
    pvv prog (Instr.fieldAt 25 s_8 0) w fun t_46 w =>
    ldv prog (Instr.loadAt 3 t_46) w fun t_47 w =>
    pvv prog (binOp .add 3 t_3 (.int .i64 1000)) w fun t_48 w =>
    Calls prog 15 #[t_0, t_47, t_48] w (Ret fun t_49 w =>
    pvv prog (Instr.extract t_49 0) w fun t_50 w =>
    pvv prog (Instr.extract t_49 1) w fun t_51 w =>
    efv prog (Instr.alloc 25 true (.tuple #[])) w fun t_52 w =>
    efu prog (Instr.storeAt 25 t_52 t_50) w fun u_53 w =>
    pvv prog (oEq .eql 34 (.tmp 86) (.const (.int .i64 12)) t_51 (.int .i64 12)) w fun t_54 w =>
    K t_54 w)) [t_3, (.int .i64 0)] w)))
theorem B5_eq (times_p0 since_p1 : Value) (w : World) (K : Value → World → Prop) : denFn prog Tryd.f5 T5 [times_p0, since_p1] w K = B5 times_p0 since_p1 w K := by kernel_rfl
theorem c5 {times_p0 since_p1 : Value} {w : World} {K : Value → World → Prop} (h : B5 times_p0 since_p1 w K) : Calls prog 5 #[times_p0, since_p1] w (Ret K) :=
  denFn_calls Tryd.func5 T5_ok (Eq.mpr (B5_eq times_p0 since_p1 w K) h)

-- 69 slices.heapSortOrdered[int]
def T69 : Ann := (.seq .none (.seq .none (.seq .none (.seq (.seq .none (.block (.loop 133956096 [9] (.seq (.seq .none (.seq .none .none)) (.seq (.block .none) .none))))) (.seq .none (.block (.loop 72057593501058048 [10] (.seq (.seq .none (.seq .none .none)) (.seq (.block (.seq (.draw [.op 0 .pure, .op 1 .pure, .op 2 .pure, .op 3 .pure, .op 4 .pure, .op 5 .pure, .op 6 .pure, .op 7 .pure, .op 8 .pure, .op 9 .pure, .op 10 .pure, .op 12 .pure, .op 13 .pure, .op 14 .pure, .op 11 .load, .op 15 .load, .op 16 .pure, .op 17 .eff, .op 18 .pure, .op 19 .eff]) .none)) .none)))))))))
theorem T69_ok : chkFn prog Tryd.f69 T69 = true := by kernel_rfl
def B69 (data_p0 a_p1 b_p2 : Value) (w : World) (K : Value → World → Prop) : Prop :=
  pvv prog (binOp .sub 3 b_p2 a_p1) w fun t_0 w =>
  pvv prog (binOp .sub 3 t_0 (.int .i64 1)) w fun t_1 w =>
  pvv prog (binOp .quo 3 t_1 (.int .i64 2)) w fun t_2 w =>
  lp (fun σ w again_4 => pop σ fun i_3 σ => fin σ <|
    pvv prog (binOp .geq 3 i_3 (.int .i64 0)) w fun t_5 w =>
    cd t_5 (
      Calls prog 83 #[data_p0, i_3, t_0, a_p1] w (Ret fun t_6 w =>
      pvv prog (binOp .sub 3 i_3 (.int .i64 1)) w fun t_7 w =>
      again_4 [t_7] w)) <|
    pvv prog (binOp .sub 3 t_0 (.int .i64 1)) w fun t_8 w =>
    lp (fun σ w again_10 => pop σ fun i_9 σ => fin σ <|
      pvv prog (binOp .geq 3 i_9 (.int .i64 0)) w fun t_11 w =>
      cd t_11 (
        dr w fun w =>
        pvv prog (binOp .add 3 a_p1 i_9) w fun t_12 w =>
        pvv prog (binOp .add 3 a_p1 i_9) w fun t_13 w =>
        pvv prog (Instr.indexAt 65 data_p0 t_13) w fun t_14 w =>
        pvv prog (Instr.indexAt 65 data_p0 a_p1) w fun t_15 w =>
        bindS (vN (Instr.loadAt 3 t_14)) fun m_17 => ldv prog (Instr.loadAt 3 t_14) w fun t_16 w =>
        bindS (vN (Instr.loadAt 3 t_15)) fun m_19 => ldv prog (Instr.loadAt 3 t_15) w fun t_18 w =>
        pvv prog (Instr.indexAt 65 data_p0 a_p1) w fun t_20 w =>
        efu prog (Instr.storeAt 3 t_20 t_16) w fun u_21 w =>
        pvv prog (Instr.indexAt 65 data_p0 t_12) w fun t_22 w =>
        efu prog (Instr.storeAt 3 t_22 t_18) w fun u_23 w =>
        Calls prog 83 #[data_p0, (.int .i64 0), i_9, a_p1] w (Ret fun t_24 w =>
        pvv prog (binOp .sub 3 i_9 (.int .i64 1)) w fun t_25 w =>
        again_10 [t_25] w)) <|
      K (.tuple #[]) w) [t_8] w) [t_2] w
theorem B69_eq (data_p0 a_p1 b_p2 : Value) (w : World) (K : Value → World → Prop) : denFn prog Tryd.f69 T69 [data_p0, a_p1, b_p2] w K = B69 data_p0 a_p1 b_p2 w K := by kernel_rfl
theorem c69 {data_p0 a_p1 b_p2 : Value} {w : World} {K : Value → World → Prop} (h : B69 data_p0 a_p1 b_p2 w K) : Calls prog 69 #[data_p0, a_p1, b_p2] w (Ret K) :=
  denFn_calls Tryd.func69 T69_ok (Eq.mpr (B69_eq data_p0 a_p1 b_p2 w K) h)

-- 40 holdfast/holdfastref02.IsName
def T40 : Ann := (.seq .none (.seq (.seq .none (.block (.loop 8589934588 [3] (.seq (.seq .none (.seq .none .none)) (.seq (.block (.seq .none (.seq .none (.seq (.seq .none .none) .none)))) .none))))) (.seq .none .none)))
theorem T40_ok : chkFn prog Tryd.f40 T40 = true := by kernel_rfl
def B40 (s_p0 : Value) (w : World) (K : Value → World → Prop) : Prop :=
  lp (fun σ w again_1 => pop σ fun i_0 σ => fin σ <|
    pv prog (oBi .len #[9] 3 #[false] #[s_p0]) w fun t_2 w =>
    pvv prog (binOp .lss 3 i_0 t_2) w fun t_3 w =>
    cd t_3 (
      pvv prog (Instr.index 9 s_p0 i_0) w fun t_4 w =>
      pvv prog (binOp .geq 5 t_4 (.int .u8 97)) w fun t_5 w =>
      gate (some (t_5, true)) (fun K => K t_4 w) w fun t_6 w =>
      gate (some (t_5, true)) (fun K => pvv prog (binOp .leq 5 t_6 (.int .u8 122)) w K) w fun t_7 w =>
      pv prog (oPick t_5 t_7 (.bool false)) w fun t_8 w =>
      gate (some (t_8, false)) (fun K => K t_4 w) w fun t_9 w =>
      gate (some (t_8, false)) (fun K => pvv prog (binOp .geq 5 t_9 (.int .u8 48)) w K) w fun t_10 w =>
      gate (some (t_8, false)) (fun K => K t_10 w) w fun t_11 w =>
      gate (some (t_11, true)) (fun K => K t_4 w) w fun t_12 w =>
      gate (some (t_11, true)) (fun K => pvv prog (binOp .leq 5 t_12 (.int .u8 57)) w K) w fun t_13 w =>
      gate (some (t_8, false)) (fun K => pv prog (oPick t_11 t_13 (.bool false)) w K) w fun t_14 w =>
      pv prog (oPick t_8 (.bool true) t_14) w fun t_15 w =>
      gate (some (t_15, false)) (fun K => K t_4 w) w fun t_16 w =>
      gate (some (t_15, false)) (fun K => pvv prog (oEq .eql 5 (.tmp 29) (.const (.int .u8 45)) t_16 (.int .u8 45)) w K) w fun t_17 w =>
      pv prog (oPick t_15 (.bool true) t_17) w fun t_18 w =>
      pvv prog (Op.unary .not t_18) w fun t_19 w =>
      cd t_19 (
        K (.bool false) w) <|
      pvv prog (binOp .add 3 i_0 (.int .i64 1)) w fun t_20 w =>
      again_1 [t_20] w) <|
    pv prog (oBi .len #[9] 3 #[false] #[s_p0]) w fun t_21 w =>
    pvv prog (binOp .geq 3 t_21 (.int .i64 1)) w fun t_22 w =>
    gate (some (t_22, true)) (fun K => K s_p0 w) w fun t_23 w =>
    gate (some (t_22, true)) (fun K => pv prog (oBi .len #[9] 3 #[false] #[t_23]) w K) w fun t_24 w =>
    gate (some (t_22, true)) (fun K => pvv prog (binOp .leq 3 t_24 (.int .i64 9)) w K) w fun t_25 w =>
    pv prog (oPick t_22 t_25 (.bool false)) w fun t_26 w =>
    K t_26 w) [(.int .i64 0)] w
theorem B40_eq (s_p0 : Value) (w : World) (K : Value → World → Prop) : denFn prog Tryd.f40 T40 [s_p0] w K = B40 s_p0 w K := by kernel_rfl
theorem c40 {s_p0 : Value} {w : World} {K : Value → World → Prop} (h : B40 s_p0 w K) : Calls prog 40 #[s_p0] w (Ret K) :=
  denFn_calls Tryd.func40 T40_ok (Eq.mpr (B40_eq s_p0 w K) h)

-- 71 slices.choosePivotOrdered[int]
def T71 : Ann := (.seq .none (.seq .none (.seq .none (.seq .none (.seq .none (.seq .none (.meet 562947805944832 [11] (.seq .none (.seq (.meet 17583596116992 [10, 11, 12] (.seq .none (.seq (.seq .none (.seq .none .none)) .none)) .none) .none)) (.seq .none (.block (.seq .none (.seq (.seq .none .none) (.seq .none (.seq (.seq .none .none) (.seq .none .none))))))))))))))
theorem T71_ok : chkFn prog Tryd.f71 T71 = true := by kernel_rfl
def B71 (data_p0 a_p1 b_p2 : Value) (w : World) (K : Value → World → Prop) : Prop :=
  pvv prog (binOp .sub 3 b_p2 a_p1) w fun t_0 w =>
  efv prog (Instr.alloc 3 true (.tuple #[])) w fun swaps_1 w =>
  pvv prog (binOp .quo 3 t_0 (.int .i64 4)) w fun t_2 w =>
  pvv prog (binOp .mul 3 t_2 (.int .i64 1)) w fun t_3 w =>
  pvv prog (binOp .add 3 a_p1 t_3) w fun t_4 w =>
  pvv prog (binOp .quo 3 t_0 (.int .i64 4)) w fun t_5 w =>
  pvv prog (binOp .mul 3 t_5 (.int .i64 2)) w fun t_6 w =>
  pvv prog (binOp .add 3 a_p1 t_6) w fun t_7 w =>
  pvv prog (binOp .quo 3 t_0 (.int .i64 4)) w fun t_8 w =>
  pvv prog (binOp .mul 3 t_8 (.int .i64 3)) w fun t_9 w =>
  pvv prog (binOp .add 3 a_p1 t_9) w fun t_10 w =>
  jn (fun σ w => pop σ fun j_11 σ => fin σ <|
    ldv prog (Instr.loadAt 3 swaps_1) w fun t_12 w =>
    pvv prog (oEq .eql 3 (.tmp 49) (.const (.int .i64 0)) t_12 (.int .i64 0)) w fun t_13 w =>
    cd t_13 (
      K (.tuple #[j_11, (.int .i64 1)]) w) <|
    pvv prog (oEq .eql 3 (.tmp 49) (.const (.int .i64 12)) t_12 (.int .i64 12)) w fun t_14 w =>
    cd t_14 (
      K (.tuple #[j_11, (.int .i64 2)]) w) <|
    K (.tuple #[j_11, (.int .i64 0)]) w) fun k_15 =>
  pvv prog (binOp .geq 3 t_0 (.int .i64 8)) w fun t_16 w =>
  cd t_16 (
    jn (fun σ w => pop σ fun i_17 σ => pop σ fun j_18 σ => pop σ fun k_19 σ => fin σ <|
      Calls prog 87 #[data_p0, i_17, j_18, k_19, swaps_1] w (Ret fun t_20 w =>
      k_15 [t_20] w)) fun k_21 =>
    pvv prog (binOp .geq 3 t_0 (.int .i64 50)) w fun t_22 w =>
    cd t_22 (
      Calls prog 86 #[data_p0, t_4, swaps_1] w (Ret fun t_23 w =>
      Calls prog 86 #[data_p0, t_7, swaps_1] w (Ret fun t_24 w =>
      Calls prog 86 #[data_p0, t_10, swaps_1] w (Ret fun t_25 w =>
      k_21 [t_23, t_24, t_25] w)))) <|
    k_21 [t_4, t_7, t_10] w) <|
  k_15 [t_7] w
theorem B71_eq (data_p0 a_p1 b_p2 : Value) (w : World) (K : Value → World → Prop) : denFn prog Tryd.f71 T71 [data_p0, a_p1, b_p2] w K = B71 data_p0 a_p1 b_p2 w K := by kernel_rfl
theorem c71 {data_p0 a_p1 b_p2 : Value} {w : World} {K : Value → World → Prop} (h : B71 data_p0 a_p1 b_p2 w K) : Calls prog 71 #[data_p0, a_p1, b_p2] w (Ret K) :=
  denFn_calls Tryd.func71 T71_ok (Eq.mpr (B71_eq data_p0 a_p1 b_p2 w K) h)

-- 24 (*holdfast/session.Table).find
def T24 : Ann := (.seq .none (.seq (.seq .none (.seq (.seq .none .none) .none)) (.seq .none (.seq (.seq .none (.seq (.seq .none .none) .none)) (.seq .none .none)))))
theorem T24_ok : chkFn prog Tryd.f24 T24 = true := by kernel_rfl
def B24 (t_p0 id_p1 : Value) (w : World) (K : Value → World → Prop) : Prop :=
  efv prog (Instr.alloc 25 true (.tuple #[])) w fun t_0 w =>
  pvv prog (binOp .lss 3 id_p1 (.int .i64 1)) w fun t_1 w =>
  gate (some (t_1, false)) (fun K => K id_p1 w) w fun t_2 w =>
  gate (some (t_1, false)) (fun K => K t_p0 w) w fun t_3 w =>
  gate (some (t_1, false)) (fun K => pv prog (oNil t_3) w K) w fun t_4 w =>
  gate (some (t_1, false)) (fun K => pvv prog (Instr.fieldAt 58 t_4 1) w K) w fun t_5 w =>
  gate (some (t_1, false)) (fun K => ldv prog (Instr.loadAt 3 t_5) w K) w fun t_6 w =>
  gate (some (t_1, false)) (fun K => pvv prog (binOp .geq 3 t_2 t_6) w K) w fun t_7 w =>
  pv prog (oPick t_1 (.bool true) t_7) w fun t_8 w =>
  cd t_8 (
    pvv prog (Instr.build 25 #[]) w fun t_9 w =>
    efu prog (Instr.storeAt 25 t_0 t_9) w fun u_10 w =>
    ∃ r_11, (do loadVar 25 (← asAddr t_0)).run prog w = .ok r_11 w ∧ K (.tuple #[r_11, (.int .i64 4)]) w) <|
  pv prog (oNil t_p0) w fun t_12 w =>
  pvv prog (Instr.fieldAt 58 t_12 2) w fun t_13 w =>
  ldv prog (Instr.loadAt 54 t_13) w fun t_14 w =>
  ldv prog (Instr.lookup 54 t_14 id_p1 true) w fun t_15 w =>
  pvv prog (Instr.extract t_15 0) w fun t_16 w =>
  pvv prog (Instr.extract t_15 1) w fun t_17 w =>
  efv prog (Instr.alloc 25 true (.tuple #[])) w fun s_18 w =>
  efu prog (Instr.storeAt 25 s_18 t_16) w fun u_19 w =>
  pvv prog (Op.unary .not t_17) w fun t_20 w =>
  cd t_20 (
    pvv prog (Instr.build 25 #[]) w fun t_21 w =>
    efu prog (Instr.storeAt 25 t_0 t_21) w fun u_22 w =>
    ∃ r_23, (do loadVar 25 (← asAddr t_0)).run prog w = .ok r_23 w ∧ K (.tuple #[r_23, (.int .i64 12)]) w) <|
  ldv prog (Instr.loadAt 25 s_18) w fun t_24 w =>
  efu prog (Instr.storeAt 25 t_0 t_24) w fun u_25 w =>
  ∃ r_26, (do loadVar 25 (← asAddr t_0)).run prog w = .ok r_26 w ∧ K (.tuple #[r_26, (.int .i64 0)]) w
theorem B24_eq (t_p0 id_p1 : Value) (w : World) (K : Value → World → Prop) : denFn prog Tryd.f24 T24 [t_p0, id_p1] w K = B24 t_p0 id_p1 w K := by kernel_rfl
theorem c24 {t_p0 id_p1 : Value} {w : World} {K : Value → World → Prop} (h : B24 t_p0 id_p1 w K) : Calls prog 24 #[t_p0, id_p1] w (Ret K) :=
  denFn_calls Tryd.func24 T24_ok (Eq.mpr (B24_eq t_p0 id_p1 w K) h)

-- 10 holdfast/holdfastref11.Until
def T10 : Ann := (.seq .none (.seq .none (.meet 16264 [3] (.seq .none (.seq (.seq .none (.seq .none (.seq .none .none))) .none)) (.seq .none (.meet 8323088 [4] (.seq .none (.seq (.seq .none (.seq .none (.seq .none .none))) .none)) (.meet 125829128 [3] (.seq .none (.seq .none .none)) (.seq (.seq .none (.seq (.seq .none .none) .none)) (.seq .none .none))))))))
theorem T10_ok : chkFn prog Tryd.f10 T10 = true := by kernel_rfl
def B10 (s_p0 : Value) (w : World) (K : Value → World → Prop) : Prop :=
  efv prog (Instr.box 25 s_p0) w fun s_0 w =>
  pvv prog (Instr.fieldAt 25 s_0 3) w fun t_1 w =>
  ldv prog (Instr.loadAt 3 t_1) w fun t_2 w =>
  jn (fun σ w => pop σ fun u_3 σ => fin σ <|
    pvv prog (Instr.fieldAt 25 s_0 2) w fun t_4 w =>
    ldv prog (Instr.loadAt 3 t_4) w fun t_5 w =>
    jn (fun σ w => pop σ fun v_6 σ => fin σ <|
      jn (fun σ w => pop σ fun u_7 σ => fin σ <|
        pvv prog (binOp .gtr 3 u_7 (.int .i64 1099511627776)) w fun t_8 w =>
        cd t_8 (
          K (.int .i64 1099511627776) w) <|
        K u_7 w) fun k_9 =>
      pvv prog (binOp .lss 3 v_6 u_3) w fun t_10 w =>
      cd t_10 (
        k_9 [v_6] w) <|
      k_9 [u_3] w) fun k_11 =>
    pvv prog (binOp .lss 3 t_5 (.int .i64 1099511627776)) w fun t_12 w =>
    cd t_12 (
      pvv prog (binOp .add 3 t_5 (.int .i64 1000)) w fun t_13 w =>
      pvv prog (Instr.fieldAt 25 s_0 2) w fun t_14 w =>
      ldv prog (Instr.loadAt 3 t_14) w fun t_15 w =>
      pvv prog (binOp .gtr 3 t_15 (.int .i64 1099511626776)) w fun t_16 w =>
      cd t_16 (
        k_11 [(.int .i64 1099511627776)] w) <|
      k_11 [t_13] w) <|
    k_11 [t_5] w) fun k_17 =>
  pvv prog (binOp .lss 3 t_2 (.int .i64 1099511627776)) w fun t_18 w =>
  cd t_18 (
    pvv prog (binOp .add 3 t_2 (.int .i64 200)) w fun t_19 w =>
    pvv prog (Instr.fieldAt 25 s_0 3) w fun t_20 w =>
    ldv prog (Instr.loadAt 3 t_20) w fun t_21 w =>
    pvv prog (binOp .gtr 3 t_21 (.int .i64 1099511627576)) w fun t_22 w =>
    cd t_22 (
      k_17 [(.int .i64 1099511627776)] w) <|
    k_17 [t_19] w) <|
  k_17 [t_2] w
theorem B10_eq (s_p0 : Value) (w : World) (K : Value → World → Prop) : denFn prog Tryd.f10 T10 [s_p0] w K = B10 s_p0 w K := by kernel_rfl
theorem c10 {s_p0 : Value} {w : World} {K : Value → World → Prop} (h : B10 s_p0 w K) : Calls prog 10 #[s_p0] w (Ret K) :=
  denFn_calls Tryd.func10 T10_ok (Eq.mpr (B10_eq s_p0 w K) h)

-- 22 (*holdfast/session.Table).all
def T22 : Ann := (.seq .none (.seq .none (.seq (.seq .none (.block (.loop 137438920864 [5, 15] (.seq .none (.seq (.seq .none .none) (.meet 68719345824 [5] (.block (.seq .none (.seq .none (.seq .none .none)))) .none)))))) (.seq .none .none))))
theorem T22_ok : chkFn prog Tryd.f22 T22 = true := by kernel_rfl
def B22 (t_p0 is_p1 : Value) (w : World) (K : Value → World → Prop) : Prop :=
  pv prog (oNil t_p0) w fun t_0 w =>
  pvv prog (Instr.fieldAt 58 t_0 2) w fun t_1 w =>
  ldv prog (Instr.loadAt 54 t_1) w fun t_2 w =>
  Calls prog 39 #[t_2] w (Ret fun t_3 w =>
  Calls prog 38 #[t_3] w (Ret fun t_4 w =>
  pv prog (oBi .len #[65] 3 #[false] #[t_4]) w fun t_5 w =>
  lp (fun σ w again_8 => pop σ fun out_6 σ => pop σ fun t_7 σ => fin σ <|
    pvv prog (binOp .lss 3 t_7 t_5) w fun t_9 w =>
    cd t_9 (
      jn (fun σ w => pop σ fun out_10 σ => fin σ <|
        pvv prog (binOp .add 3 t_7 (.int .i64 1)) w fun t_11 w =>
        again_8 [out_10, t_11] w) fun k_12 =>
      pvv prog (Instr.indexAt 65 t_4 t_7) w fun t_13 w =>
      ldv prog (Instr.loadAt 3 t_13) w fun t_14 w =>
      pv prog (oNil t_p0) w fun t_15 w =>
      pvv prog (Instr.fieldAt 58 t_15 2) w fun t_16 w =>
      ldv prog (Instr.loadAt 54 t_16) w fun t_17 w =>
      ldv prog (Instr.lookup 54 t_17 t_14 false) w fun t_18 w =>
      ef prog (oCall is_p1 #[t_18]) w fun t_19 w =>
      cd t_19 (
        pv prog (oNil t_p0) w fun t_20 w =>
        pvv prog (Instr.fieldAt 58 t_20 2) w fun t_21 w =>
        ldv prog (Instr.loadAt 54 t_21) w fun t_22 w =>
        ldv prog (Instr.lookup 54 t_22 t_14 false) w fun t_23 w =>
        efv prog (Instr.buildSlice 37 1 #[(0, t_23)]) w fun t_24 w =>
        ef prog (oBi .append #[37, 37] 37 #[false, false] #[out_6, t_24]) w fun t_25 w =>
        k_12 [t_25] w) <|
      k_12 [out_6] w) <|
    K out_6 w) [(.slice none 0 0), (.int .i64 0)] w))
theorem B22_eq (t_p0 is_p1 : Value) (w : World) (K : Value → World → Prop) : denFn prog Tryd.f22 T22 [t_p0, is_p1] w K = B22 t_p0 is_p1 w K := by kernel_rfl
theorem c22 {t_p0 is_p1 : Value} {w : World} {K : Value → World → Prop} (h : B22 t_p0 is_p1 w K) : Calls prog 22 #[t_p0, is_p1] w (Ret K) :=
  denFn_calls Tryd.func22 T22_ok (Eq.mpr (B22_eq t_p0 is_p1 w K) h)

-- 29 holdfast/holdfastref01.SameInts
def T29 : Ann := (.seq .none (.seq (.seq .none (.seq (.seq .none .none) .none)) (.seq (.seq .none (.block (.loop 67106864 [5] (.seq (.seq .none (.seq .none .none)) (.seq (.block (.seq (.draw [.op 0 .pure, .op 1 .pure, .op 2 .pure, .op 4 .pure, .op 5 .pure, .op 6 .pure, .op 3 .load, .op 7 .load, .op 8 .pure]) (.seq (.seq .none .none) .none))) .none))))) (.seq .none .none))))
theorem T29_ok : chkFn prog Tryd.f29 T29 = true := by kernel_rfl
def B29 (a_p0 b_p1 : Value) (w : World) (K : Value → World → Prop) : Prop :=
  pv prog (oBi .len #[65] 3 #[false] #[a_p0]) w fun t_0 w =>
  pv prog (oBi .len #[65] 3 #[false] #[b_p1]) w fun t_1 w =>
  pvv prog (oEq .neq 3 (.tmp 7) (.tmp 9) t_0 t_1) w fun t_2 w =>
  cd t_2 (
    K (.bool false) w) <|
  lp (fun σ w again_4 => pop σ fun i_3 σ => fin σ <|
    pv prog (oBi .len #[65] 3 #[false] #[a_p0]) w fun t_5 w =>
    pvv prog (binOp .lss 3 i_3 t_5) w fun t_6 w =>
    cd t_6 (
      dr w fun w =>
      pvv prog (Instr.indexAt 65 a_p0 i_3) w fun t_7 w =>
      pvv prog (Instr.indexAt 65 b_p1 i_3) w fun t_8 w =>
      bindS (vN (Instr.loadAt 3 t_7)) fun m_10 => ldv prog (Instr.loadAt 3 t_7) w fun t_9 w =>
      bindS (vN (Instr.loadAt 3 t_8)) fun m_12 => ldv prog (Instr.loadAt 3 t_8) w fun t_11 w =>
      pvv prog (oEq .neq 3 (.tmp 20) (.tmp 24) t_9 t_11) w fun t_13 w =>
      cd t_13 (
        K (.bool false) w) <|
      pvv prog (binOp .add 3 i_3 (.int .i64 1)) w fun t_14 w =>
      again_4 [t_14] w) <|
    K (.bool true) w) [(.int .i64 0)] w
theorem B29_eq (a_p0 b_p1 : Value) (w : World) (K : Value → World → Prop) : denFn prog Tryd.f29 T29 [a_p0, b_p1] w K = B29 a_p0 b_p1 w K := by kernel_rfl
theorem c29 {a_p0 b_p1 : Value} {w : World} {K : Value → World → Prop} (h : B29 a_p0 b_p1 w K) : Calls prog 29 #[a_p0, b_p1] w (Ret K) :=
  denFn_calls Tryd.func29 T29_ok (Eq.mpr (B29_eq a_p0 b_p1 w K) h)

-- 49 strings.trimRightByte
def T49 : Ann := (.seq .none (.seq (.block (.loop 4194273 [0] (.seq (.seq .none (.seq .none .none)) (.block .none)))) (.seq .none .none)))
theorem T49_ok : chkFn prog Tryd.f49 T49 = true := by kernel_rfl
def B49 (s_p0 c_p1 : Value) (w : World) (K : Value → World → Prop) : Prop :=
  lp (fun σ w again_1 => pop σ fun s_0 σ => fin σ <|
    pv prog (oBi .len #[9] 3 #[false] #[s_0]) w fun t_2 w =>
    pvv prog (binOp .gtr 3 t_2 (.int .i64 0)) w fun t_3 w =>
    gate (some (t_3, true)) (fun K => K s_0 w) w fun t_4 w =>
    gate (some (t_3, true)) (fun K => K s_0 w) w fun t_5 w =>
    gate (some (t_3, true)) (fun K => pv prog (oBi .len #[9] 3 #[false] #[t_5]) w K) w fun t_6 w =>
    gate (some (t_3, true)) (fun K => pvv prog (binOp .sub 3 t_6 (.int .i64 1)) w K) w fun t_7 w =>
    gate (some (t_3, true)) (fun K => pvv prog (Instr.index 9 t_4 t_7) w K) w fun t_8 w =>
    gate (some (t_3, true)) (fun K => K c_p1 w) w fun t_9 w =>
    gate (some (t_3, true)) (fun K => pvv prog (oEq .eql 5 (.tmp 13) (.tmp 14) t_8 t_9) w K) w fun t_10 w =>
    pv prog (oPick t_3 t_10 (.bool false)) w fun t_11 w =>
    cd t_11 (
      pv prog (oBi .len #[9] 3 #[false] #[s_0]) w fun t_12 w =>
      pvv prog (binOp .sub 3 t_12 (.int .i64 1)) w fun t_13 w =>
      pvv prog (Instr.sliceAt 9 s_0 none (some t_13) none) w fun t_14 w =>
      again_1 [t_14] w) <|
    K s_0 w) [s_p0] w
theorem B49_eq (s_p0 c_p1 : Value) (w : World) (K : Value → World → Prop) : denFn prog Tryd.f49 T49 [s_p0, c_p1] w K = B49 s_p0 c_p1 w K := by kernel_rfl
theorem c49 {s_p0 c_p1 : Value} {w : World} {K : Value → World → Prop} (h : B49 s_p0 c_p1 w K) : Calls prog 49 #[s_p0, c_p1] w (Ret K) :=
  denFn_calls Tryd.func49 T49_ok (Eq.mpr (B49_eq s_p0 c_p1 w K) h)

-- 41 (*holdfast/holdfastref11.Table).time
def T41 : Ann := (.seq .none (.seq (.block (.seq .none (.seq (.seq .none .none) (.seq .none (.seq (.seq .none .none) (.seq .none (.seq (.seq .none .none) .none))))))) (.seq .none .none)))
theorem T41_ok : chkFn prog Tryd.f41 T41 = true := by kernel_rfl
def B41 (t_p0 now_p1 : Value) (w : World) (K : Value → World → Prop) : Prop :=
  pvv prog (oEq .eql 45 (.tmp 6) (.const (.pointer none)) t_p0 (.pointer none)) w fun t_0 w =>
  cd t_0 (
    K (.int .i64 1) w) <|
  pvv prog (binOp .lss 3 now_p1 (.int .i64 0)) w fun t_1 w =>
  gate (some (t_1, false)) (fun K => K now_p1 w) w fun t_2 w =>
  gate (some (t_1, false)) (fun K => pvv prog (binOp .gtr 3 t_2 (.int .i64 1099511627776)) w K) w fun t_3 w =>
  pv prog (oPick t_1 (.bool true) t_3) w fun t_4 w =>
  cd t_4 (
    K (.int .i64 2) w) <|
  pv prog (oNil t_p0) w fun t_5 w =>
  pvv prog (Instr.fieldAt 63 t_5 1) w fun t_6 w =>
  ldv prog (Instr.loadAt 3 t_6) w fun t_7 w =>
  pvv prog (binOp .lss 3 now_p1 t_7) w fun t_8 w =>
  cd t_8 (
    K (.int .i64 9) w) <|
  K (.int .i64 0) w
theorem B41_eq (t_p0 now_p1 : Value) (w : World) (K : Value → World → Prop) : denFn prog Tryd.f41 T41 [t_p0, now_p1] w K = B41 t_p0 now_p1 w K := by kernel_rfl
theorem c41 {t_p0 now_p1 : Value} {w : World} {K : Value → World → Prop} (h : B41 t_p0 now_p1 w K) : Calls prog 41 #[t_p0, now_p1] w (Ret K) :=
  denFn_calls Tryd.func41 T41_ok (Eq.mpr (B41_eq t_p0 now_p1 w K) h)

-- 48 strings.trimLeftByte
def T48 : Ann := (.seq .none (.seq (.block (.loop 65505 [0] (.seq (.seq .none (.seq .none .none)) (.block .none)))) (.seq .none .none)))
theorem T48_ok : chkFn prog Tryd.f48 T48 = true := by kernel_rfl
def B48 (s_p0 c_p1 : Value) (w : World) (K : Value → World → Prop) : Prop :=
  lp (fun σ w again_1 => pop σ fun s_0 σ => fin σ <|
    pv prog (oBi .len #[9] 3 #[false] #[s_0]) w fun t_2 w =>
    pvv prog (binOp .gtr 3 t_2 (.int .i64 0)) w fun t_3 w =>
    gate (some (t_3, true)) (fun K => K s_0 w) w fun t_4 w =>
    gate (some (t_3, true)) (fun K => pvv prog (Instr.index 9 t_4 (.int .i64 0)) w K) w fun t_5 w =>
    gate (some (t_3, true)) (fun K => K c_p1 w) w fun t_6 w =>
    gate (some (t_3, true)) (fun K => pvv prog (oEq .eql 5 (.tmp 10) (.tmp 11) t_5 t_6) w K) w fun t_7 w =>
    pv prog (oPick t_3 t_7 (.bool false)) w fun t_8 w =>
    cd t_8 (
      pvv prog (Instr.sliceAt 9 s_0 (some (.int .i64 1)) none none) w fun t_9 w =>
      again_1 [t_9] w) <|
    K s_0 w) [s_p0] w
theorem B48_eq (s_p0 c_p1 : Value) (w : World) (K : Value → World → Prop) : denFn prog Tryd.f48 T48 [s_p0, c_p1] w K = B48 s_p0 c_p1 w K := by kernel_rfl
theorem c48 {s_p0 c_p1 : Value} {w : World} {K : Value → World → Prop} (h : B48 s_p0 c_p1 w K) : Calls prog 48 #[s_p0, c_p1] w (Ret K) :=
  denFn_calls Tryd.func48 T48_ok (Eq.mpr (B48_eq s_p0 c_p1 w K) h)

-- 80 unicode/utf8.ValidRune
def T80 : Ann := (.seq .none (.seq (.block (.seq .none (.seq (.seq .none .none) (.seq .none (.seq (.seq .none .none) .none))))) (.seq .none .none)))
theorem T80_ok : chkFn prog Tryd.f80 T80 = true := by kernel_rfl
def B80 (r_p0 : Value) (w : World) (K : Value → World → Prop) : Prop :=
  pvv prog (binOp .leq 21 (.int .i32 0) r_p0) w fun t_0 w =>
  gate (some (t_0, true)) (fun K => K r_p0 w) w fun t_1 w =>
  gate (some (t_0, true)) (fun K => pvv prog (binOp .lss 21 t_1 (.int .i32 55296)) w K) w fun t_2 w =>
  pv prog (oPick t_0 t_2 (.bool false)) w fun t_3 w =>
  cd t_3 (
    K (.bool true) w) <|
  pvv prog (binOp .lss 21 (.int .i32 57343) r_p0) w fun t_4 w =>
  gate (some (t_4, true)) (fun K => K r_p0 w) w fun t_5 w =>
  gate (some (t_4, true)) (fun K => pvv prog (binOp .leq 21 t_5 (.int .i32 1114111)) w K) w fun t_6 w =>
  pv prog (oPick t_4 t_6 (.bool false)) w fun t_7 w =>
  cd t_7 (
    K (.bool true) w) <|
  K (.bool false) w
theorem B80_eq (r_p0 : Value) (w : World) (K : Value → World → Prop) : denFn prog Tryd.f80 T80 [r_p0] w K = B80 r_p0 w K := by kernel_rfl
theorem c80 {r_p0 : Value} {w : World} {K : Value → World → Prop} (h : B80 r_p0 w K) : Calls prog 80 #[r_p0] w (Ret K) :=
  denFn_calls Tryd.func80 T80_ok (Eq.mpr (B80_eq r_p0 w K) h)

-- 9 holdfast/session.Until
def T9 : Ann := (.seq .none (.seq (.draw [.op 0 .pure, .op 3 .pure, .op 1 .load, .op 4 .load, .op 2 .eff, .op 5 .eff, .op 6 .pure, .op 7 .pure]) .none))
theorem T9_ok : chkFn prog Tryd.f9 T9 = true := by kernel_rfl
def B9 (s_p0 : Value) (w : World) (K : Value → World → Prop) : Prop :=
  efv prog (Instr.box 25 s_p0) w fun s_0 w =>
  dr w fun w =>
  pvv prog (Instr.fieldAt 25 s_0 3) w fun t_1 w =>
  pvv prog (Instr.fieldAt 25 s_0 2) w fun t_2 w =>
  bindS (vN (Instr.loadAt 3 t_1)) fun m_4 => ldv prog (Instr.loadAt 3 t_1) w fun t_3 w =>
  bindS (vN (Instr.loadAt 3 t_2)) fun m_6 => ldv prog (Instr.loadAt 3 t_2) w fun t_5 w =>
  Calls prog 19 #[t_3, (.int .i64 200)] w (Ret fun t_7 w => stay prog none m_6 t_5 w <| 
  Calls prog 19 #[t_5, (.int .i64 1000)] w (Ret fun t_8 w => stay prog none m_4 t_3 w <| 
  pv prog (oBi .min #[3, 3] 3 #[false, false] #[t_7, t_8]) w fun t_9 w =>
  K t_9 w))
theorem B9_eq (s_p0 : Value) (w : World) (K : Value → World → Prop) : denFn prog Tryd.f9 T9 [s_p0] w K = B9 s_p0 w K := by kernel_rfl
theorem c9 {s_p0 : Value} {w : World} {K : Value → World → Prop} (h : B9 s_p0 w K) : Calls prog 9 #[s_p0] w (Ret K) :=
  denFn_calls Tryd.func9 T9_ok (Eq.mpr (B9_eq s_p0 w K) h)

-- 74 cmp.Less[int]
def T74 : Ann := (.seq .none (.seq .none .none))
theorem T74_ok : chkFn prog Tryd.f74 T74 = true := by kernel_rfl
def B74 (x_p0 y_p1 : Value) (w : World) (K : Value → World → Prop) : Prop :=
  Calls prog 88 #[x_p0] w (Ret fun t_0 w =>
  gate (some (t_0, true)) (fun K => K y_p1 w) w fun t_1 w =>
  gate (some (t_0, true)) (fun K => Calls prog 88 #[t_1] w (Ret K)) w fun t_2 w =>
  gate (some (t_0, true)) (fun K => pvv prog (Op.unary .not t_2) w K) w fun t_3 w =>
  pv prog (oPick t_0 t_3 (.bool false)) w fun t_4 w =>
  gate (some (t_4, false)) (fun K => K x_p0 w) w fun t_5 w =>
  gate (some (t_4, false)) (fun K => K y_p1 w) w fun t_6 w =>
  gate (some (t_4, false)) (fun K => pvv prog (binOp .lss 3 t_5 t_6) w K) w fun t_7 w =>
  pv prog (oPick t_4 (.bool true) t_7) w fun t_8 w =>
  K t_8 w)
theorem B74_eq (x_p0 y_p1 : Value) (w : World) (K : Value → World → Prop) : denFn prog Tryd.f74 T74 [x_p0, y_p1] w K = B74 x_p0 y_p1 w K := by kernel_rfl
theorem c74 {x_p0 y_p1 : Value} {w : World} {K : Value → World → Prop} (h : B74 x_p0 y_p1 w K) : Calls prog 74 #[x_p0, y_p1] w (Ret K) :=
  denFn_calls Tryd.func74 T74_ok (Eq.mpr (B74_eq x_p0 y_p1 w K) h)

-- 86 slices.medianAdjacentOrdered[int]
def T86 : Ann := (.seq .none (.seq .none .none))
theorem T86_ok : chkFn prog Tryd.f86 T86 = true := by kernel_rfl
def B86 (data_p0 a_p1 swaps_p2 : Value) (w : World) (K : Value → World → Prop) : Prop :=
  pvv prog (binOp .sub 3 a_p1 (.int .i64 1)) w fun t_0 w =>
  pvv prog (binOp .add 3 a_p1 (.int .i64 1)) w fun t_1 w =>
  Calls prog 87 #[data_p0, t_0, a_p1, t_1, swaps_p2] w (Ret fun t_2 w =>
  K t_2 w)
theorem B86_eq (data_p0 a_p1 swaps_p2 : Value) (w : World) (K : Value → World → Prop) : denFn prog Tryd.f86 T86 [data_p0, a_p1, swaps_p2] w K = B86 data_p0 a_p1 swaps_p2 w K := by kernel_rfl
theorem c86 {data_p0 a_p1 swaps_p2 : Value} {w : World} {K : Value → World → Prop} (h : B86 data_p0 a_p1 swaps_p2 w K) : Calls prog 86 #[data_p0, a_p1, swaps_p2] w (Ret K) :=
  denFn_calls Tryd.func86 T86_ok (Eq.mpr (B86_eq data_p0 a_p1 swaps_p2 w K) h)

-- 56 slices.Sort[[]int,int]
def T56 : Ann := (.seq .none .none)
theorem T56_ok : chkFn prog Tryd.f56 T56 = true := by kernel_rfl
def B56 (x_p0 : Value) (w : World) (K : Value → World → Prop) : Prop :=
  pv prog (oBi .len #[65] 3 #[false] #[x_p0]) w fun t_0 w =>
  pvv prog (convert 3 97 t_0) w fun t_1 w =>
  Calls prog 64 #[t_1] w (Ret fun t_2 w =>
  Calls prog 63 #[x_p0, (.int .i64 0), t_0, t_2] w (Ret fun t_3 w =>
  K (.tuple #[]) w))
theorem B56_eq (x_p0 : Value) (w : World) (K : Value → World → Prop) : denFn prog Tryd.f56 T56 [x_p0] w K = B56 x_p0 w K := by kernel_rfl
theorem c56 {x_p0 : Value} {w : World} {K : Value → World → Prop} (h : B56 x_p0 w K) : Calls prog 56 #[x_p0] w (Ret K) :=
  denFn_calls Tryd.func56 T56_ok (Eq.mpr (B56_eq x_p0 w K) h)

-- 58 (*strings.asciiSet).contains
def T58 : Ann := (.seq .none (.seq .none .none))
theorem T58_ok : chkFn prog Tryd.f58 T58 = true := by kernel_rfl
def B58 (as_p0 c_p1 : Value) (w : World) (K : Value → World → Prop) : Prop :=
  pv prog (oNil as_p0) w fun t_0 w =>
  pvv prog (Instr.indexAt 83 t_0 c_p1) w fun t_1 w =>
  ldv prog (Instr.loadAt 4 t_1) w fun t_2 w =>
  K t_2 w
theorem B58_eq (as_p0 c_p1 : Value) (w : World) (K : Value → World → Prop) : denFn prog Tryd.f58 T58 [as_p0, c_p1] w K = B58 as_p0 c_p1 w K := by kernel_rfl
theorem c58 {as_p0 c_p1 : Value} {w : World} {K : Value → World → Prop} (h : B58 as_p0 c_p1 w K) : Calls prog 58 #[as_p0, c_p1] w (Ret K) :=
  denFn_calls Tryd.func58 T58_ok (Eq.mpr (B58_eq as_p0 c_p1 w K) h)

-- 38 slices.Sorted[int]
def T38 : Ann := (.seq .none (.seq .none (.seq .none (.seq .none .none))))
theorem T38_ok : chkFn prog Tryd.f38 T38 = true := by kernel_rfl
def B38 (seq_p0 : Value) (w : World) (K : Value → World → Prop) : Prop :=
  Calls prog 55 #[seq_p0] w (Ret fun t_0 w =>
  Calls prog 56 #[t_0] w (Ret fun t_1 w =>
  K t_0 w))
theorem B38_eq (seq_p0 : Value) (w : World) (K : Value → World → Prop) : denFn prog Tryd.f38 T38 [seq_p0] w K = B38 seq_p0 w K := by kernel_rfl
theorem c38 {seq_p0 : Value} {w : World} {K : Value → World → Prop} (h : B38 seq_p0 w K) : Calls prog 38 #[seq_p0] w (Ret K) :=
  denFn_calls Tryd.func38 T38_ok (Eq.mpr (B38_eq seq_p0 w K) h)

-- 11 holdfast/session.New
def T11 : Ann := (.seq .none (.seq .none .none))
theorem T11_ok : chkFn prog Tryd.f11 T11 = true := by kernel_rfl
def B11 (w : World) (K : Value → World → Prop) : Prop :=
  efv prog (Instr.makeMap 54 none) w fun t_0 w =>
  pvv prog (Instr.build 58 #[(1, (.int .i64 1)), (2, t_0)]) w fun t_1 w =>
  efv prog (Instr.box 58 t_1) w fun t_2 w =>
  K t_2 w
theorem B11_eq (w : World) (K : Value → World → Prop) : denFn prog Tryd.f11 T11 [] w K = B11  w K := by kernel_rfl
theorem c11 {w : World} {K : Value → World → Prop} (h : B11  w K) : Calls prog 11 #[] w (Ret K) :=
  denFn_calls Tryd.func11 T11_ok (Eq.mpr (B11_eq  w K) h)


end Go.Proofs.YticbbnjhiiimcaaDoor
