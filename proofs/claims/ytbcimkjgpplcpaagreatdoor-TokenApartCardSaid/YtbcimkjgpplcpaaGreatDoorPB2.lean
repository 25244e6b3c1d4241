import Derived.Test.YtbcimkjgpplcpaaGreatDoorPI
set_option linter.all false
set_option maxRecDepth 100000
namespace Go.Proofs.YtbcimkjgpplcpaaGreatDoor
open Go Hold
-- 116 slices.partialInsertionSortOrdered[int]
def T116 : Ann := (.seq .none (.seq .none (.seq (.seq .none (.block (.loop 10889035741470030830827987437816582760384 [7, 8] (.seq (.seq .none (.seq .none .none)) (.meet 10889035741470030830827987437816582637248 [7] (.block (.seq (.block (.loop 34359607424 [7] (.seq (.seq (.draw [.op 0 .pure, .op 1 .pure, .op 2 .pure, .op 3 .pure, .op 4 .pure, .op 5 .pure, .op 6 .pure, .op 8 .pure, .op 9 .pure, .op 10 .pure, .op 11 .pure, .op 7 .load, .op 12 .load, .op 13 .eff, .op 14 .pure, .op 15 .pure]) (.seq .none .none)) (.block .none)))) (.seq (.seq .none (.seq (.seq .none .none) .none)) (.seq (.seq .none (.seq (.seq .none .none) .none)) (.seq (.draw [.op 0 .pure, .op 1 .pure, .op 2 .pure, .op 3 .pure, .op 4 .pure, .op 5 .pure, .op 6 .pure, .op 7 .pure, .op 8 .pure, .op 10 .pure, .op 11 .pure, .op 12 .pure, .op 9 .load, .op 13 .load, .op 14 .pure, .op 15 .eff, .op 16 .pure, .op 17 .eff]) (.meet 39614081256843938420620263936 [] (.seq .none (.seq (.seq .none (.block (.loop 39614081238685424723062424064 [9] (.seq (.seq .none (.seq .none .none)) (.seq (.block (.seq (.seq (.draw [.op 0 .pure, .op 1 .pure, .op 2 .pure, .op 4 .pure, .op 5 .pure, .op 6 .pure, .op 7 .pure, .op 3 .load, .op 8 .load, .op 9 .eff, .op 10 .pure]) (.seq .none .none)) (.draw [.op 0 .pure, .op 1 .pure, .op 2 .pure, .op 3 .pure, .op 4 .pure, .op 5 .pure, .op 6 .pure, .op 7 .pure, .op 8 .pure, .op 10 .pure, .op 11 .pure, .op 12 .pure, .op 9 .load, .op 13 .load, .op 14 .pure, .op 15 .eff, .op 16 .pure, .op 17 .eff]))) .none))))) .none)) (.seq .none (.seq (.seq .none (.block (.loop 10889035738934729630371528634823176356864 [10] (.seq (.seq .none (.seq .none .none)) (.seq (.block (.seq (.seq (.draw [.op 0 .pure, .op 1 .pure, .op 2 .pure, .op 4 .pure, .op 5 .pure, .op 6 .pure, .op 7 .pure, .op 3 .load, .op 8 .load, .op 9 .eff, .op 10 .pure]) (.seq .none .none)) (.draw [.op 0 .pure, .op 1 .pure, .op 2 .pure, .op 3 .pure, .op 4 .pure, .op 5 .pure, .op 6 .pure, .op 7 .pure, .op 8 .pure, .op 10 .pure, .op 11 .pure, .op 12 .pure, .op 9 .load, .op 13 .load, .op 14 .pure, .op 15 .eff, .op 16 .pure, .op 17 .eff]))) .none))))) .none)))))))) .none))))) (.seq .none .none))))
theorem T116_ok : chkFn prog Tryz.f116 T116 = true := by kernel_rfl
def B116 (data_p0 a_p1 b_p2 : Value) (w : World) (K : Value → World → Prop) : Prop :=
  pvv prog (binOp .add 3 a_p1 (.int .i64 1)) w fun t_0 w =>
  lp (fun σ w again_3 => pop σ fun i_1 σ => pop σ fun j_2 σ => fin σ <|
    pvv prog (binOp .lss 3 j_2 (.int .i64 5)) w fun t_4 w =>
    cd t_4 (
      jn (fun σ w => pop σ fun i_5 σ => fin σ <|
        pvv prog (binOp .add 3 j_2 (.int .i64 1)) w fun t_6 w =>
        again_3 [i_5, t_6] w) fun k_7 =>
      lp (fun σ w again_9 => pop σ fun i_8 σ => fin σ <|
        dr w fun w =>
        pvv prog (binOp .lss 3 i_8 b_p2) w fun t_10 w =>
        gate (some (t_10, true)) (fun K => K data_p0 w) w fun t_11 w =>
        gate (some (t_10, true)) (fun K => K i_8 w) w fun t_12 w =>
        gate (some (t_10, true)) (fun K => pvv prog (Instr.indexAt 23 t_11 t_12) w K) w fun t_13 w =>
        gate (some (t_10, true)) (fun K => K data_p0 w) w fun t_14 w =>
        gate (some (t_10, true)) (fun K => K i_8 w) w fun t_15 w =>
        gate (some (t_10, true)) (fun K => pvv prog (binOp .sub 3 t_15 (.int .i64 1)) w K) w fun t_16 w =>
        gate (some (t_10, true)) (fun K => pvv prog (Instr.indexAt 23 t_14 t_16) w K) w fun t_17 w =>
        bindS (vN (Instr.loadAt 3 t_13)) fun m_19 => gate (some (t_10, true)) (fun K => ldv prog (Instr.loadAt 3 t_13) w K) w fun t_18 w =>
        bindS (vN (Instr.loadAt 3 t_17)) fun m_21 => gate (some (t_10, true)) (fun K => ldv prog (Instr.loadAt 3 t_17) w K) w fun t_20 w =>
        gate (some (t_10, true)) (fun K => Calls prog 117 #[t_18, t_20] w (Ret fun s_106 w => K s_106 w)) w fun t_22 w =>
        gate (some (t_10, true)) (fun K => pvv prog (Op.unary .not t_22) w K) w fun t_23 w =>
        pv prog (oPick t_10 t_23 (.bool false)) w fun t_24 w =>
        cd t_24 (
          pvv prog (binOp .add 3 i_8 (.int .i64 1)) w fun t_25 w =>
          again_9 [t_25] w) <|
        pvv prog (oEq .eql 3 (.tmp 35) (.tmp 36) i_8 b_p2) w fun t_26 w =>
        cd t_26 (
          K (.bool true) w) <|
        pvv prog (binOp .sub 3 b_p2 a_p1) w fun t_27 w =>
        pvv prog (binOp .lss 3 t_27 (.int .i64 50)) w fun t_28 w =>
        cd t_28 (
          K (.bool false) w) <|
        dr w fun w =>
        pvv prog (binOp .sub 3 i_8 (.int .i64 1)) w fun t_29 w =>
        pvv prog (binOp .sub 3 i_8 (.int .i64 1)) w fun t_30 w =>
        pvv prog (Instr.indexAt 23 data_p0 t_30) w fun t_31 w =>
        pvv prog (Instr.indexAt 23 data_p0 i_8) w fun t_32 w =>
        bindS (vN (Instr.loadAt 3 t_31)) fun m_34 => ldv prog (Instr.loadAt 3 t_31) w fun t_33 w =>
        bindS (vN (Instr.loadAt 3 t_32)) fun m_36 => ldv prog (Instr.loadAt 3 t_32) w fun t_35 w =>
        pvv prog (Instr.indexAt 23 data_p0 i_8) w fun t_37 w =>
        efu prog (Instr.storeAt 3 t_37 t_33) w fun u_38 w =>
        pvv prog (Instr.indexAt 23 data_p0 t_29) w fun t_39 w =>
        efu prog (Instr.storeAt 3 t_39 t_35) w fun u_40 w =>
        jn (fun σ w => fin σ <|
          pvv prog (binOp .sub 3 b_p2 i_8) w fun t_41 w =>
          pvv prog (binOp .geq 3 t_41 (.int .i64 2)) w fun t_42 w =>
          cd t_42 (
            pvv prog (binOp .add 3 i_8 (.int .i64 1)) w fun t_43 w =>
            lp (fun σ w again_45 => pop σ fun j_44 σ => fin σ <|
              pvv prog (binOp .lss 3 j_44 b_p2) w fun t_46 w =>
              cd t_46 (
                dr w fun w =>
                pvv prog (Instr.indexAt 23 data_p0 j_44) w fun t_47 w =>
                pvv prog (binOp .sub 3 j_44 (.int .i64 1)) w fun t_48 w =>
                pvv prog (Instr.indexAt 23 data_p0 t_48) w fun t_49 w =>
                bindS (vN (Instr.loadAt 3 t_47)) fun m_51 => ldv prog (Instr.loadAt 3 t_47) w fun t_50 w =>
                bindS (vN (Instr.loadAt 3 t_49)) fun m_53 => ldv prog (Instr.loadAt 3 t_49) w fun t_52 w =>
                Calls prog 117 #[t_50, t_52] w (Ret fun t_54 w =>
                pvv prog (Op.unary .not t_54) w fun t_55 w =>
                cd t_55 (
                  k_7 [i_8] w) <|
                dr w fun w =>
                pvv prog (binOp .sub 3 j_44 (.int .i64 1)) w fun t_56 w =>
                pvv prog (binOp .sub 3 j_44 (.int .i64 1)) w fun t_57 w =>
                pvv prog (Instr.indexAt 23 data_p0 t_57) w fun t_58 w =>
                pvv prog (Instr.indexAt 23 data_p0 j_44) w fun t_59 w =>
                bindS (vN (Instr.loadAt 3 t_58)) fun m_61 => ldv prog (Instr.loadAt 3 t_58) w fun t_60 w =>
                bindS (vN (Instr.loadAt 3 t_59)) fun m_63 => ldv prog (Instr.loadAt 3 t_59) w fun t_62 w =>
                pvv prog (Instr.indexAt 23 data_p0 j_44) w fun t_64 w =>
                efu prog (Instr.storeAt 3 t_64 t_60) w fun u_65 w =>
                pvv prog (Instr.indexAt 23 data_p0 t_56) w fun t_66 w =>
                efu prog (Instr.storeAt 3 t_66 t_62) w fun u_67 w =>
                pvv prog (binOp .add 3 j_44 (.int .i64 1)) w fun t_68 w =>
                again_45 [t_68] w)) <|
              k_7 [i_8] w) [t_43] w) <|
          k_7 [i_8] w) fun k_72 =>
        pvv prog (binOp .sub 3 i_8 a_p1) w fun t_73 w =>
        pvv prog (binOp .geq 3 t_73 (.int .i64 2)) w fun t_74 w =>
        cd t_74 (
          pvv prog (binOp .sub 3 i_8 (.int .i64 1)) w fun t_75 w =>
          lp (fun σ w again_77 => pop σ fun j_76 σ => fin σ <|
            pvv prog (binOp .geq 3 j_76 (.int .i64 1)) w fun t_78 w =>
            cd t_78 (
              dr w fun w =>
              pvv prog (Instr.indexAt 23 data_p0 j_76) w fun t_79 w =>
              pvv prog (binOp .sub 3 j_76 (.int .i64 1)) w fun t_80 w =>
              pvv prog (Instr.indexAt 23 data_p0 t_80) w fun t_81 w =>
              bindS (vN (Instr.loadAt 3 t_79)) fun m_83 => ldv prog (Instr.loadAt 3 t_79) w fun t_82 w =>
              bindS (vN (Instr.loadAt 3 t_81)) fun m_85 => ldv prog (Instr.loadAt 3 t_81) w fun t_84 w =>
              Calls prog 117 #[t_82, t_84] w (Ret fun t_86 w =>
              pvv prog (Op.unary .not t_86) w fun t_87 w =>
              cd t_87 (
                k_72 [] w) <|
              dr w fun w =>
              pvv prog (binOp .sub 3 j_76 (.int .i64 1)) w fun t_88 w =>
              pvv prog (binOp .sub 3 j_76 (.int .i64 1)) w fun t_89 w =>
              pvv prog (Instr.indexAt 23 data_p0 t_89) w fun t_90 w =>
              pvv prog (Instr.indexAt 23 data_p0 j_76) w fun t_91 w =>
              bindS (vN (Instr.loadAt 3 t_90)) fun m_93 => ldv prog (Instr.loadAt 3 t_90) w fun t_92 w =>
              bindS (vN (Instr.loadAt 3 t_91)) fun m_95 => ldv prog (Instr.loadAt 3 t_91) w fun t_94 w =>
              pvv prog (Instr.indexAt 23 data_p0 j_76) w fun t_96 w =>
              efu prog (Instr.storeAt 3 t_96 t_92) w fun u_97 w =>
              pvv prog (Instr.indexAt 23 data_p0 t_88) w fun t_98 w =>
              efu prog (Instr.storeAt 3 t_98 t_94) w fun u_99 w =>
              pvv prog (binOp .sub 3 j_76 (.int .i64 1)) w fun t_100 w =>
              again_77 [t_100] w)) <|
            k_72 [] w) [t_75] w) <|
        k_72 [] w) [i_1] w) <|
    K (.bool false) w) [t_0, (.int .i64 0)] w
theorem B116_eq (data_p0 a_p1 b_p2 : Value) (w : World) (K : Value → World → Prop) : denFn prog Tryz.f116 T116 [data_p0, a_p1, b_p2] w K = B116 data_p0 a_p1 b_p2 w K := by kernel_rfl
theorem c116 {data_p0 a_p1 b_p2 : Value} {w : World} {K : Value → World → Prop} (h : B116 data_p0 a_p1 b_p2 w K) : Calls prog 116 #[data_p0, a_p1, b_p2] w (Ret K) :=
  denFn_calls Tryz.func116 T116_ok (Eq.mpr (B116_eq data_p0 a_p1 b_p2 w K) h)

-- 24 (*holdfast/holdfastref12.Store).Refresh
def T24 : Ann := (.seq .none (.seq (.seq .none (.seq .none (.seq (.seq .none .none) .none))) (.seq .none (.seq (.seq .none (.seq (.seq .none .none) .none)) (.seq .none (.seq (.block (.seq .none (.seq (.seq .none .none) (.seq .none (.seq (.seq .none (.seq .none (.seq .none .none))) (.seq .none (.seq (.seq .none .none) .none))))))) (.seq .none (.seq .none (.seq .none (.seq .none (.seq .none (.seq .none (.seq (.draw [.op 1 .pure, .op 2 .pure, .op 3 .pure, .op 5 .pure, .op 6 .pure, .op 0 .load, .op 4 .load, .op 7 .eff, .op 8 .eff, .op 9 .eff, .op 10 .pure]) .none)))))))))))))
theorem T24_ok : chkFn prog Tryz.f24 T24 = true := by kernel_rfl
def B24 (s_p0 family_p1 number_p2 now_p3 : Value) (w : World) (K : Value → World → Prop) : Prop :=
  efv prog (Instr.alloc 35 true (.tuple #[])) w fun t_0 w =>
  efv prog (Instr.alloc 49 true (.tuple #[])) w fun t_1 w =>
  Calls prog 59 #[s_p0, now_p3] w (Ret fun t_2 w =>
  pvv prog (oEq .neq 36 (.tmp 19) (.const (.int .i64 0)) t_2 (.int .i64 0)) w fun t_3 w =>
  cd t_3 (
    pvv prog (Instr.build 35 #[]) w fun t_4 w =>
    pvv prog (Instr.build 49 #[]) w fun t_5 w =>
    efu prog (Instr.storeAt 35 t_0 t_4) w fun u_6 w =>
    efu prog (Instr.storeAt 49 t_1 t_5) w fun u_7 w =>
    ∃ r_8, (do loadVar 35 (← asAddr t_0)).run prog w = .ok r_8 w ∧ ∃ r_9, (do loadVar 49 (← asAddr t_1)).run prog w = .ok r_9 w ∧ K (.tuple #[r_8, r_9, t_2]) w) <|
  Calls prog 60 #[s_p0, family_p1] w (Ret fun t_10 w =>
  pvv prog (Instr.extract t_10 0) w fun t_11 w =>
  pvv prog (Instr.extract t_10 1) w fun t_12 w =>
  pvv prog (oEq .neq 36 (.tmp 30) (.const (.int .i64 0)) t_12 (.int .i64 0)) w fun t_13 w =>
  cd t_13 (
    pvv prog (Instr.build 35 #[]) w fun t_14 w =>
    pvv prog (Instr.build 49 #[]) w fun t_15 w =>
    efu prog (Instr.storeAt 35 t_0 t_14) w fun u_16 w =>
    efu prog (Instr.storeAt 49 t_1 t_15) w fun u_17 w =>
    ∃ r_18, (do loadVar 35 (← asAddr t_0)).run prog w = .ok r_18 w ∧ ∃ r_19, (do loadVar 49 (← asAddr t_1)).run prog w = .ok r_19 w ∧ K (.tuple #[r_18, r_19, t_12]) w) <|
  pv prog (oNil s_p0) w fun t_20 w =>
  pvv prog (Instr.fieldAt 69 t_20 3) w fun t_21 w =>
  ldv prog (Instr.loadAt 43 t_21) w fun t_22 w =>
  pvv prog (Instr.indexAt 43 t_22 t_11) w fun t_23 w =>
  ldv prog (Instr.loadAt 35 t_23) w fun t_24 w =>
  efv prog (Instr.alloc 35 true (.tuple #[])) w fun f_25 w =>
  efu prog (Instr.storeAt 35 f_25 t_24) w fun u_26 w =>
  pvv prog (Instr.fieldAt 35 f_25 4) w fun t_27 w =>
  ldv prog (Instr.loadAt 3 t_27) w fun t_28 w =>
  pvv prog (binOp .gtr 3 number_p2 t_28) w fun t_29 w =>
  gate (some (t_29, false)) (fun K => K number_p2 w) w fun t_30 w =>
  gate (some (t_29, false)) (fun K => pvv prog (binOp .lss 3 t_30 (.int .i64 1)) w K) w fun t_31 w =>
  pv prog (oPick t_29 (.bool true) t_31) w fun t_32 w =>
  cd t_32 (
    pvv prog (Instr.build 35 #[]) w fun t_33 w =>
    pvv prog (Instr.build 49 #[]) w fun t_34 w =>
    efu prog (Instr.storeAt 35 t_0 t_33) w fun u_35 w =>
    efu prog (Instr.storeAt 49 t_1 t_34) w fun u_36 w =>
    ∃ r_37, (do loadVar 35 (← asAddr t_0)).run prog w = .ok r_37 w ∧ ∃ r_38, (do loadVar 49 (← asAddr t_1)).run prog w = .ok r_38 w ∧ K (.tuple #[r_37, r_38, (.int .i64 10)]) w) <|
  pvv prog (Instr.fieldAt 35 f_25 4) w fun t_39 w =>
  ldv prog (Instr.loadAt 3 t_39) w fun t_40 w =>
  pvv prog (binOp .lss 3 number_p2 t_40) w fun t_41 w =>
  cd t_41 (
    Calls prog 61 #[s_p0, family_p1] w (Ret fun t_42 w =>
    pv prog (oNil s_p0) w fun t_43 w =>
    pvv prog (Instr.fieldAt 69 t_43 2) w fun t_44 w =>
    efu prog (Instr.storeAt 3 t_44 now_p3) w fun u_45 w =>
    pvv prog (Instr.build 35 #[]) w fun t_46 w =>
    pvv prog (Instr.build 49 #[]) w fun t_47 w =>
    efu prog (Instr.storeAt 35 t_0 t_46) w fun u_48 w =>
    efu prog (Instr.storeAt 49 t_1 t_47) w fun u_49 w =>
    ∃ r_50, (do loadVar 35 (← asAddr t_0)).run prog w = .ok r_50 w ∧ ∃ r_51, (do loadVar 49 (← asAddr t_1)).run prog w = .ok r_51 w ∧ K (.tuple #[r_50, r_51, (.int .i64 13)]) w)) <|
  pv prog (oNil s_p0) w fun t_52 w =>
  pvv prog (Instr.fieldAt 69 t_52 1) w fun t_53 w =>
  ldv prog (Instr.loadAt 3 t_53) w fun t_54 w =>
  pvv prog (binOp .gtr 3 t_54 (.int .i64 1099511627776)) w fun t_55 w =>
  gate (some (t_55, false)) (fun K => pvv prog (Instr.fieldAt 35 f_25 4) w K) w fun t_56 w =>
  gate (some (t_55, false)) (fun K => ldv prog (Instr.loadAt 3 t_56) w K) w fun t_57 w =>
  gate (some (t_55, false)) (fun K => pvv prog (binOp .geq 3 t_57 (.int .i64 1099511627776)) w K) w fun t_58 w =>
  pv prog (oPick t_55 (.bool true) t_58) w fun t_59 w =>
  cd t_59 (
    pvv prog (Instr.build 35 #[]) w fun t_60 w =>
    pvv prog (Instr.build 49 #[]) w fun t_61 w =>
    efu prog (Instr.storeAt 35 t_0 t_60) w fun u_62 w =>
    efu prog (Instr.storeAt 49 t_1 t_61) w fun u_63 w =>
    ∃ r_64, (do loadVar 35 (← asAddr t_0)).run prog w = .ok r_64 w ∧ ∃ r_65, (do loadVar 49 (← asAddr t_1)).run prog w = .ok r_65 w ∧ K (.tuple #[r_64, r_65, (.int .i64 7)]) w) <|
  pvv prog (Instr.fieldAt 35 f_25 4) w fun t_66 w =>
  ldv prog (Instr.loadAt 3 t_66) w fun t_67 w =>
  pvv prog (binOp .add 3 t_67 (.int .i64 1)) w fun t_68 w =>
  pvv prog (Instr.fieldAt 35 f_25 4) w fun t_69 w =>
  efu prog (Instr.storeAt 3 t_69 t_68) w fun u_70 w =>
  pv prog (oNil s_p0) w fun t_71 w =>
  pvv prog (Instr.fieldAt 69 t_71 2) w fun t_72 w =>
  efu prog (Instr.storeAt 3 t_72 now_p3) w fun u_73 w =>
  pv prog (oNil s_p0) w fun t_74 w =>
  pvv prog (Instr.fieldAt 69 t_74 3) w fun t_75 w =>
  ldv prog (Instr.loadAt 43 t_75) w fun t_76 w =>
  ef prog (oBi .append #[43, 43] 43 #[false, false] #[(.slice none 0 0), t_76]) w fun t_77 w =>
  ldv prog (Instr.loadAt 35 f_25) w fun t_78 w =>
  pvv prog (Instr.indexAt 43 t_77 t_11) w fun t_79 w =>
  efu prog (Instr.storeAt 35 t_79 t_78) w fun u_80 w =>
  pv prog (oNil s_p0) w fun t_81 w =>
  pvv prog (Instr.fieldAt 69 t_81 3) w fun t_82 w =>
  efu prog (Instr.storeAt 43 t_82 t_77) w fun u_83 w =>
  dr w fun w =>
  pvv prog (Instr.fieldAt 35 f_25 3) w fun t_84 w =>
  pvv prog (binOp .add 3 now_p3 (.int .i64 50)) w fun t_85 w =>
  bindS (vN (Instr.loadAt 35 f_25)) fun m_87 => ldv prog (Instr.loadAt 35 f_25) w fun t_86 w =>
  bindS (vN (Instr.loadAt 30 t_84)) fun m_89 => ldv prog (Instr.loadAt 30 t_84) w fun t_88 w =>
  Calls prog 58 #[s_p0, family_p1, t_88, t_85] w (Ret fun t_90 w => stay prog none m_87 t_86 w <| 
  efu prog (Instr.storeAt 35 t_0 t_86) w fun u_91 w => stay prog none m_89 t_88 w <| 
  efu prog (Instr.storeAt 49 t_1 t_90) w fun u_92 w =>
  ∃ r_93, (do loadVar 35 (← asAddr t_0)).run prog w = .ok r_93 w ∧ ∃ r_94, (do loadVar 49 (← asAddr t_1)).run prog w = .ok r_94 w ∧ K (.tuple #[r_93, r_94, (.int .i64 0)]) w)))
theorem B24_eq (s_p0 family_p1 number_p2 now_p3 : Value) (w : World) (K : Value → World → Prop) : denFn prog Tryz.f24 T24 [s_p0, family_p1, number_p2, now_p3] w K = B24 s_p0 family_p1 number_p2 now_p3 w K := by kernel_rfl
theorem c24 {s_p0 family_p1 number_p2 now_p3 : Value} {w : World} {K : Value → World → Prop} (h : B24 s_p0 family_p1 number_p2 now_p3 w K) : Calls prog 24 #[s_p0, family_p1, number_p2, now_p3] w (Ret K) :=
  denFn_calls Tryz.func24 T24_ok (Eq.mpr (B24_eq s_p0 family_p1 number_p2 now_p3 w K) h)

-- 3 holdfast/holdfastlaw12.TokenApart
def T3 : Ann := (.seq .none (.seq .none (.seq (.seq .none (.seq (.seq .none .none) .none)) (.seq (.seq .none (.block (.loop 1099503239680 [9] (.seq (.seq .none (.seq .none .none)) (.seq (.block .none) .none))))) (.seq .none (.seq .none (.seq (.seq .none (.block (.loop 10141204801825835141604881985600 [12] (.seq (.seq .none (.seq .none .none)) (.seq (.block (.seq .none (.seq .none (.seq .none (.seq (.seq .none (.block (.loop 151111115765810219843584 [17, 18] (.seq (.seq .none (.seq .none .none)) (.seq (.block .none) .none))))) (.seq .none (.seq (.seq .none .none) .none))))))) .none))))) (.seq .none .none))))))))
theorem T3_ok : chkFn prog Tryz.f3 T3 = true := by kernel_rfl
def B3 (l_p0 client_p1 sessions_p2 : Value) (w : World) (K : Value → World → Prop) : Prop :=
  Calls prog 6 #[] w (Ret fun t_0 w =>
  Calls prog 7 #[] w (Ret fun t_1 w =>
  Calls prog 8 #[] w (Ret fun t_2 w =>
  pvv prog (Op.unary .not t_2) w fun t_3 w =>
  cd t_3 (
    K (.bool false) w) <|
  lp (fun σ w again_5 => pop σ fun i_4 σ => fin σ <|
    pv prog (oBi .len #[22] 3 #[false] #[l_p0]) w fun t_6 w =>
    pvv prog (binOp .lss 3 i_4 t_6) w fun t_7 w =>
    gate (some (t_7, true)) (fun K => K i_4 w) w fun t_8 w =>
    gate (some (t_7, true)) (fun K => pvv prog (binOp .lss 3 t_8 (.int .i64 60)) w K) w fun t_9 w =>
    pv prog (oPick t_7 t_9 (.bool false)) w fun t_10 w =>
    cd t_10 (
      pvv prog (Instr.indexAt 22 l_p0 i_4) w fun t_11 w =>
      ldv prog (Instr.loadAt 32 t_11) w fun t_12 w =>
      Calls prog 9 #[t_0, t_1, t_12] w (Ret fun t_13 w =>
      pvv prog (binOp .add 3 i_4 (.int .i64 1)) w fun t_14 w =>
      again_5 [t_14] w)) <|
    Calls prog 10 #[t_0] w (Ret fun t_15 w =>
    Calls prog 11 #[t_0, client_p1, sessions_p2] w (Ret fun t_16 w =>
    lp (fun σ w again_18 => pop σ fun id_17 σ => fin σ <|
      pvv prog (binOp .lss 3 id_17 (.int .i64 20)) w fun t_19 w =>
      cd t_19 (
        Calls prog 12 #[t_15, id_17] w (Ret fun t_20 w =>
        pvv prog (Instr.extract t_20 0) w fun t_21 w =>
        pvv prog (Instr.extract t_20 1) w fun t_22 w =>
        efv prog (Instr.alloc 35 true (.tuple #[])) w fun f_23 w =>
        efu prog (Instr.storeAt 35 f_23 t_21) w fun u_24 w =>
        Calls prog 12 #[t_0, id_17] w (Ret fun t_25 w =>
        pvv prog (Instr.extract t_25 0) w fun t_26 w =>
        pvv prog (Instr.extract t_25 1) w fun t_27 w =>
        efv prog (Instr.alloc 35 true (.tuple #[])) w fun t_28 w =>
        efu prog (Instr.storeAt 35 t_28 t_26) w fun u_29 w =>
        lp (fun σ w again_32 => pop σ fun gone_30 σ => pop σ fun i_31 σ => fin σ <|
          pv prog (oBi .len #[23] 3 #[false] #[t_16]) w fun t_33 w =>
          pvv prog (binOp .lss 3 i_31 t_33) w fun t_34 w =>
          cd t_34 (
            gate (some (gone_30, false)) (fun K => K t_16 w) w fun t_35 w =>
            gate (some (gone_30, false)) (fun K => K i_31 w) w fun t_36 w =>
            gate (some (gone_30, false)) (fun K => pvv prog (Instr.indexAt 23 t_35 t_36) w K) w fun t_37 w =>
            gate (some (gone_30, false)) (fun K => ldv prog (Instr.loadAt 3 t_37) w K) w fun t_38 w =>
            gate (some (gone_30, false)) (fun K => K id_17 w) w fun t_39 w =>
            gate (some (gone_30, false)) (fun K => pvv prog (oEq .eql 3 (.tmp 73) (.tmp 74) t_38 t_39) w K) w fun t_40 w =>
            pv prog (oPick gone_30 (.bool true) t_40) w fun t_41 w =>
            pvv prog (binOp .add 3 i_31 (.int .i64 1)) w fun t_42 w =>
            again_32 [t_41, t_42] w) <|
          pvv prog (oEq .eql 36 (.tmp 77) (.const (.int .i64 0)) t_22 (.int .i64 0)) w fun t_43 w =>
          gate (some (t_43, true)) (fun K => K t_27 w) w fun t_44 w =>
          gate (some (t_43, true)) (fun K => pvv prog (oEq .eql 36 (.tmp 80) (.const (.int .i64 0)) t_44 (.int .i64 0)) w K) w fun t_45 w =>
          gate (some (t_43, true)) (fun K => K gone_30 w) w fun t_46 w =>
          gate (some (t_43, true)) (fun K => pvv prog (oEq .eql 4 (.tmp 81) (.tmp 82) t_45 t_46) w K) w fun t_47 w =>
          pv prog (oPick t_43 t_47 (.bool false)) w fun t_48 w =>
          gate (some (t_48, false)) (fun K => K t_22 w) w fun t_49 w =>
          gate (some (t_48, false)) (fun K => pvv prog (oEq .neq 36 (.tmp 86) (.const (.int .i64 0)) t_49 (.int .i64 0)) w K) w fun t_50 w =>
          gate (some (t_48, false)) (fun K => K t_50 w) w fun t_51 w =>
          gate (some (t_51, true)) (fun K => K t_27 w) w fun t_52 w =>
          gate (some (t_51, true)) (fun K => K t_22 w) w fun t_53 w =>
          gate (some (t_51, true)) (fun K => pvv prog (oEq .neq 36 (.tmp 89) (.tmp 90) t_52 t_53) w K) w fun t_54 w =>
          gate (some (t_48, false)) (fun K => pv prog (oPick t_51 t_54 (.bool false)) w K) w fun t_55 w =>
          pv prog (oPick t_48 (.bool true) t_55) w fun t_56 w =>
          gate (some (t_56, false)) (fun K => K gone_30 w) w fun t_57 w =>
          gate (some (t_56, false)) (fun K => K t_57 w) w fun t_58 w =>
          gate (some (t_58, true)) (fun K => pvv prog (Instr.fieldAt 35 f_23 2) w K) w fun t_59 w =>
          gate (some (t_58, true)) (fun K => ldv prog (Instr.loadAt 9 t_59) w K) w fun t_60 w =>
          gate (some (t_58, true)) (fun K => K client_p1 w) w fun t_61 w =>
          gate (some (t_58, true)) (fun K => pvv prog (oEq .neq 9 (.tmp 98) (.tmp 99) t_60 t_61) w K) w fun t_62 w =>
          gate (some (t_56, false)) (fun K => pv prog (oPick t_58 t_62 (.bool false)) w K) w fun t_63 w =>
          pv prog (oPick t_56 (.bool true) t_63) w fun t_64 w =>
          cd t_64 (
            K (.bool false) w) <|
          pvv prog (binOp .add 3 id_17 (.int .i64 1)) w fun t_65 w =>
          again_18 [t_65] w) [(.bool false), (.int .i64 0)] w))) <|
      K (.bool true) w) [(.int .i64 1)] w))) [(.int .i64 0)] w)))
theorem B3_eq (l_p0 client_p1 sessions_p2 : Value) (w : World) (K : Value → World → Prop) : denFn prog Tryz.f3 T3 [l_p0, client_p1, sessions_p2] w K = B3 l_p0 client_p1 sessions_p2 w K := by kernel_rfl
theorem c3 {l_p0 client_p1 sessions_p2 : Value} {w : World} {K : Value → World → Prop} (h : B3 l_p0 client_p1 sessions_p2 w K) : Calls prog 3 #[l_p0, client_p1, sessions_p2] w (Ret K) :=
  denFn_calls Tryz.func3 T3_ok (Eq.mpr (B3_eq l_p0 client_p1 sessions_p2 w K) h)

-- 129 slices.siftDownOrdered[int]
def T129 : Ann := (.seq .none (.block (.loop 75557863725914323417856 [8] (.block (.seq .none (.seq (.seq .none (.seq .none .none)) (.meet 549755683328 [9] (.seq (.draw [.op 0 .pure, .op 1 .pure, .op 2 .pure, .op 3 .pure, .op 4 .pure, .op 5 .pure, .op 6 .pure, .op 7 .pure, .op 8 .pure, .op 9 .pure, .op 11 .pure, .op 12 .pure, .op 13 .pure, .op 14 .pure, .op 15 .pure, .op 16 .pure, .op 10 .load, .op 17 .load, .op 18 .eff, .op 19 .pure]) (.seq .none .none)) (.seq (.seq (.draw [.op 0 .pure, .op 1 .pure, .op 2 .pure, .op 3 .pure, .op 4 .pure, .op 6 .pure, .op 7 .pure, .op 8 .pure, .op 9 .pure, .op 10 .pure, .op 5 .load, .op 11 .load, .op 12 .eff, .op 13 .pure]) (.seq .none .none)) (.seq (.draw [.op 0 .pure, .op 1 .pure, .op 2 .pure, .op 3 .pure, .op 4 .pure, .op 5 .pure, .op 6 .pure, .op 7 .pure, .op 8 .pure, .op 9 .pure, .op 10 .pure, .op 11 .pure, .op 12 .pure, .op 14 .pure, .op 15 .pure, .op 16 .pure, .op 17 .pure, .op 18 .pure, .op 13 .load, .op 19 .load, .op 20 .pure, .op 21 .eff, .op 22 .pure, .op 23 .eff]) .none)))))))))
theorem T129_ok : chkFn prog Tryz.f129 T129 = true := by kernel_rfl
def B129 (data_p0 lo_p1 hi_p2 first_p3 : Value) (w : World) (K : Value → World → Prop) : Prop :=
  lp (fun σ w again_1 => pop σ fun root_0 σ => fin σ <|
    pvv prog (binOp .mul 3 (.int .i64 2) root_0) w fun t_2 w =>
    pvv prog (binOp .add 3 t_2 (.int .i64 1)) w fun t_3 w =>
    pvv prog (binOp .geq 3 t_3 hi_p2) w fun t_4 w =>
    cd t_4 (
      K (.tuple #[]) w) <|
    jn (fun σ w => pop σ fun child_5 σ => fin σ <|
      dr w fun w =>
      pvv prog (binOp .add 3 first_p3 root_0) w fun t_6 w =>
      pvv prog (Instr.indexAt 23 data_p0 t_6) w fun t_7 w =>
      pvv prog (binOp .add 3 first_p3 child_5) w fun t_8 w =>
      pvv prog (Instr.indexAt 23 data_p0 t_8) w fun t_9 w =>
      bindS (vN (Instr.loadAt 3 t_7)) fun m_11 => ldv prog (Instr.loadAt 3 t_7) w fun t_10 w =>
      bindS (vN (Instr.loadAt 3 t_9)) fun m_13 => ldv prog (Instr.loadAt 3 t_9) w fun t_12 w =>
      Calls prog 117 #[t_10, t_12] w (Ret fun t_14 w =>
      pvv prog (Op.unary .not t_14) w fun t_15 w =>
      cd t_15 (
        K (.tuple #[]) w) <|
      dr w fun w =>
      pvv prog (binOp .add 3 first_p3 root_0) w fun t_16 w =>
      pvv prog (binOp .add 3 first_p3 child_5) w fun t_17 w =>
      pvv prog (binOp .add 3 first_p3 child_5) w fun t_18 w =>
      pvv prog (Instr.indexAt 23 data_p0 t_18) w fun t_19 w =>
      pvv prog (binOp .add 3 first_p3 root_0) w fun t_20 w =>
      pvv prog (Instr.indexAt 23 data_p0 t_20) w fun t_21 w =>
      bindS (vN (Instr.loadAt 3 t_19)) fun m_23 => ldv prog (Instr.loadAt 3 t_19) w fun t_22 w =>
      bindS (vN (Instr.loadAt 3 t_21)) fun m_25 => ldv prog (Instr.loadAt 3 t_21) w fun t_24 w =>
      pvv prog (Instr.indexAt 23 data_p0 t_16) w fun t_26 w =>
      efu prog (Instr.storeAt 3 t_26 t_22) w fun u_27 w =>
      pvv prog (Instr.indexAt 23 data_p0 t_17) w fun t_28 w =>
      efu prog (Instr.storeAt 3 t_28 t_24) w fun u_29 w =>
      again_1 [child_5] w)) fun k_33 =>
    dr w fun w =>
    pvv prog (binOp .add 3 t_3 (.int .i64 1)) w fun t_34 w =>
    pvv prog (binOp .lss 3 t_34 hi_p2) w fun t_35 w =>
    gate (some (t_35, true)) (fun K => K data_p0 w) w fun t_36 w =>
    gate (some (t_35, true)) (fun K => K first_p3 w) w fun t_37 w =>
    gate (some (t_35, true)) (fun K => K t_3 w) w fun t_38 w =>
    gate (some (t_35, true)) (fun K => pvv prog (binOp .add 3 t_37 t_38) w K) w fun t_39 w =>
    gate (some (t_35, true)) (fun K => pvv prog (Instr.indexAt 23 t_36 t_39) w K) w fun t_40 w =>
    gate (some (t_35, true)) (fun K => K data_p0 w) w fun t_41 w =>
    gate (some (t_35, true)) (fun K => K first_p3 w) w fun t_42 w =>
    gate (some (t_35, true)) (fun K => K t_3 w) w fun t_43 w =>
    gate (some (t_35, true)) (fun K => pvv prog (binOp .add 3 t_42 t_43) w K) w fun t_44 w =>
    gate (some (t_35, true)) (fun K => pvv prog (binOp .add 3 t_44 (.int .i64 1)) w K) w fun t_45 w =>
    gate (some (t_35, true)) (fun K => pvv prog (Instr.indexAt 23 t_41 t_45) w K) w fun t_46 w =>
    bindS (vN (Instr.loadAt 3 t_40)) fun m_48 => gate (some (t_35, true)) (fun K => ldv prog (Instr.loadAt 3 t_40) w K) w fun t_47 w =>
    bindS (vN (Instr.loadAt 3 t_46)) fun m_50 => gate (some (t_35, true)) (fun K => ldv prog (Instr.loadAt 3 t_46) w K) w fun t_49 w =>
    gate (some (t_35, true)) (fun K => Calls prog 117 #[t_47, t_49] w (Ret fun s_54 w => K s_54 w)) w fun t_51 w =>
    pv prog (oPick t_35 t_51 (.bool false)) w fun t_52 w =>
    cd t_52 (
      pvv prog (binOp .add 3 t_3 (.int .i64 1)) w fun t_53 w =>
      k_33 [t_53] w) <|
    k_33 [t_3] w) [lo_p1] w
theorem B129_eq (data_p0 lo_p1 hi_p2 first_p3 : Value) (w : World) (K : Value → World → Prop) : denFn prog Tryz.f129 T129 [data_p0, lo_p1, hi_p2, first_p3] w K = B129 data_p0 lo_p1 hi_p2 first_p3 w K := by kernel_rfl
theorem c129 {data_p0 lo_p1 hi_p2 first_p3 : Value} {w : World} {K : Value → World → Prop} (h : B129 data_p0 lo_p1 hi_p2 first_p3 w K) : Calls prog 129 #[data_p0, lo_p1, hi_p2, first_p3] w (Ret K) :=
  denFn_calls Tryz.func129 T129_ok (Eq.mpr (B129_eq data_p0 lo_p1 hi_p2 first_p3 w K) h)

-- 169 gosem.cut.vars
def T169 : Ann := (.seq .none (.seq .none (.seq .none .none)))
theorem T169_ok : chkFn prog Tryz.f169 T169 = true := by kernel_rfl
def B169 (w : World) (K : Value → World → Prop) : Prop :=
  pvv prog (Instr.build 172 #[(0, (.int .u8 0)), (1, (.int .u8 1)), (2, (.int .u8 28)), (3, (.int .u8 2)), (4, (.int .u8 29)), (5, (.int .u8 14)), (6, (.int .u8 24)), (7, (.int .u8 3)), (8, (.int .u8 30)), (9, (.int .u8 22)), (10, (.int .u8 20)), (11, (.int .u8 15)), (12, (.int .u8 25)), (13, (.int .u8 17)), (14, (.int .u8 4)), (15, (.int .u8 8)), (16, (.int .u8 31)), (17, (.int .u8 27)), (18, (.int .u8 13)), (19, (.int .u8 23)), (20, (.int .u8 21)), (21, (.int .u8 19)), (22, (.int .u8 16)), (23, (.int .u8 7)), (24, (.int .u8 26)), (25, (.int .u8 12)), (26, (.int .u8 18)), (27, (.int .u8 6)), (28, (.int .u8 11)), (29, (.int .u8 5)), (30, (.int .u8 10)), (31, (.int .u8 9))]) w fun t_0 w =>
  efu prog (Instr.storeAt 172 (.pointer (some ⟨4, 0, none⟩)) t_0) w fun u_1 w =>
  pvv prog (Instr.build 173 #[(0, (.int .u8 0)), (1, (.int .u8 1)), (2, (.int .u8 56)), (3, (.int .u8 2)), (4, (.int .u8 57)), (5, (.int .u8 49)), (6, (.int .u8 28)), (7, (.int .u8 3)), (8, (.int .u8 61)), (9, (.int .u8 58)), (10, (.int .u8 42)), (11, (.int .u8 50)), (12, (.int .u8 38)), (13, (.int .u8 29)), (14, (.int .u8 17)), (15, (.int .u8 4)), (16, (.int .u8 62)), (17, (.int .u8 47)), (18, (.int .u8 59)), (19, (.int .u8 36)), (20, (.int .u8 45)), (21, (.int .u8 43)), (22, (.int .u8 51)), (23, (.int .u8 22)), (24, (.int .u8 53)), (25, (.int .u8 39)), (26, (.int .u8 33)), (27, (.int .u8 30)), (28, (.int .u8 24)), (29, (.int .u8 18)), (30, (.int .u8 12)), (31, (.int .u8 5)), (32, (.int .u8 63)), (33, (.int .u8 55)), (34, (.int .u8 48)), (35, (.int .u8 27)), (36, (.int .u8 60)), (37, (.int .u8 41)), (38, (.int .u8 37)), (39, (.int .u8 16)), (40, (.int .u8 46)), (41, (.int .u8 35)), (42, (.int .u8 44)), (43, (.int .u8 21)), (44, (.int .u8 52)), (45, (.int .u8 32)), (46, (.int .u8 23)), (47, (.int .u8 11)), (48, (.int .u8 54)), (49, (.int .u8 26)), (50, (.int .u8 40)), (51, (.int .u8 15)), (52, (.int .u8 34)), (53, (.int .u8 20)), (54, (.int .u8 31)), (55, (.int .u8 10)), (56, (.int .u8 25)), (57, (.int .u8 14)), (58, (.int .u8 19)), (59, (.int .u8 9)), (60, (.int .u8 13)), (61, (.int .u8 8)), (62, (.int .u8 7)), (63, (.int .u8 6))]) w fun t_2 w =>
  efu prog (Instr.storeAt 173 (.pointer (some ⟨5, 0, none⟩)) t_2) w fun u_3 w =>
  pvv prog (Instr.build 163 #[(0, (.int .u64 1)), (1, (.int .u64 10)), (2, (.int .u64 100)), (3, (.int .u64 1000)), (4, (.int .u64 10000)), (5, (.int .u64 100000)), (6, (.int .u64 1000000)), (7, (.int .u64 10000000)), (8, (.int .u64 100000000)), (9, (.int .u64 1000000000)), (10, (.int .u64 10000000000)), (11, (.int .u64 100000000000)), (12, (.int .u64 1000000000000)), (13, (.int .u64 10000000000000)), (14, (.int .u64 100000000000000)), (15, (.int .u64 1000000000000000)), (16, (.int .u64 10000000000000000)), (17, (.int .u64 100000000000000000)), (18, (.int .u64 1000000000000000000)), (19, (.int .u64 10000000000000000000))]) w fun t_4 w =>
  efu prog (Instr.storeAt 163 (.pointer (some ⟨0, 0, none⟩)) t_4) w fun u_5 w =>
  pvv prog (Instr.build 167 #[(0, (.int .u8 128)), (1, (.int .u8 191))]) w fun t_6 w =>
  pvv prog (Instr.build 167 #[(0, (.int .u8 160)), (1, (.int .u8 191))]) w fun t_7 w =>
  pvv prog (Instr.build 167 #[(0, (.int .u8 128)), (1, (.int .u8 159))]) w fun t_8 w =>
  pvv prog (Instr.build 167 #[(0, (.int .u8 144)), (1, (.int .u8 191))]) w fun t_9 w =>
  pvv prog (Instr.build 167 #[(0, (.int .u8 128)), (1, (.int .u8 143))]) w fun t_10 w =>
  pvv prog (Instr.build 168 #[(0, t_6), (1, t_7), (2, t_8), (3, t_9), (4, t_10)]) w fun t_11 w =>
  efu prog (Instr.storeAt 168 (.pointer (some ⟨2, 0, none⟩)) t_11) w fun u_12 w =>
  K (.tuple #[]) w
theorem B169_eq (w : World) (K : Value → World → Prop) : denFn prog Tryz.f169 T169 [] w K = B169  w K := by kernel_rfl
theorem c169 {w : World} {K : Value → World → Prop} (h : B169  w K) : Calls prog 169 #[] w (Ret K) :=
  denFn_calls Tryz.func169 T169_ok (Eq.mpr (B169_eq  w K) h)

-- 26 (*holdfast/holdfastref12.Store).Exchange
def T26 : Ann := (.seq .none (.seq .none (.seq (.block (.seq .none (.seq (.seq .none .none) (.seq .none (.seq (.seq .none .none) (.seq .none (.seq (.seq .none .none) .none))))))) (.seq .none (.seq .none .none)))))
theorem T26_ok : chkFn prog Tryz.f26 T26 = true := by kernel_rfl
def B26 (s_p0 id_p1 scopes_p2 now_p3 : Value) (w : World) (K : Value → World → Prop) : Prop :=
  efv prog (Instr.alloc 49 true (.tuple #[])) w fun t_0 w =>
  Calls prog 25 #[s_p0, id_p1, now_p3] w (Ret fun t_1 w =>
  pvv prog (Instr.extract t_1 0) w fun t_2 w =>
  pvv prog (Instr.extract t_1 1) w fun t_3 w =>
  efv prog (Instr.alloc 49 true (.tuple #[])) w fun x_4 w =>
  efu prog (Instr.storeAt 49 x_4 t_2) w fun u_5 w =>
  pvv prog (oEq .neq 36 (.tmp 20) (.const (.int .i64 0)) t_3 (.int .i64 0)) w fun t_6 w =>
  cd t_6 (
    pvv prog (Instr.build 49 #[]) w fun t_7 w =>
    efu prog (Instr.storeAt 49 t_0 t_7) w fun u_8 w =>
    ∃ r_9, (do loadVar 49 (← asAddr t_0)).run prog w = .ok r_9 w ∧ K (.tuple #[r_9, t_3]) w) <|
  pvv prog (Instr.fieldAt 49 x_4 2) w fun t_10 w =>
  ldv prog (Instr.loadAt 30 t_10) w fun t_11 w =>
  pvv prog (binOp .and 30 scopes_p2 t_11) w fun t_12 w =>
  pvv prog (oEq .neq 30 (.tmp 28) (.tmp 29) t_12 scopes_p2) w fun t_13 w =>
  cd t_13 (
    pvv prog (Instr.build 49 #[]) w fun t_14 w =>
    efu prog (Instr.storeAt 49 t_0 t_14) w fun u_15 w =>
    ∃ r_16, (do loadVar 49 (← asAddr t_0)).run prog w = .ok r_16 w ∧ K (.tuple #[r_16, (.int .i64 14)]) w) <|
  pv prog (oNil s_p0) w fun t_17 w =>
  pvv prog (Instr.fieldAt 69 t_17 1) w fun t_18 w =>
  ldv prog (Instr.loadAt 3 t_18) w fun t_19 w =>
  pvv prog (binOp .gtr 3 t_19 (.int .i64 1099511627776)) w fun t_20 w =>
  cd t_20 (
    pvv prog (Instr.build 49 #[]) w fun t_21 w =>
    efu prog (Instr.storeAt 49 t_0 t_21) w fun u_22 w =>
    ∃ r_23, (do loadVar 49 (← asAddr t_0)).run prog w = .ok r_23 w ∧ K (.tuple #[r_23, (.int .i64 7)]) w) <|
  pv prog (oNil s_p0) w fun t_24 w =>
  pvv prog (Instr.fieldAt 69 t_24 2) w fun t_25 w =>
  efu prog (Instr.storeAt 3 t_25 now_p3) w fun u_26 w =>
  pvv prog (Instr.fieldAt 49 x_4 1) w fun t_27 w =>
  ldv prog (Instr.loadAt 3 t_27) w fun t_28 w =>
  pvv prog (Instr.fieldAt 49 x_4 3) w fun t_29 w =>
  ldv prog (Instr.loadAt 3 t_29) w fun t_30 w =>
  Calls prog 58 #[s_p0, t_28, scopes_p2, t_30] w (Ret fun t_31 w =>
  efu prog (Instr.storeAt 49 t_0 t_31) w fun u_32 w =>
  ∃ r_33, (do loadVar 49 (← asAddr t_0)).run prog w = .ok r_33 w ∧ K (.tuple #[r_33, (.int .i64 0)]) w))
theorem B26_eq (s_p0 id_p1 scopes_p2 now_p3 : Value) (w : World) (K : Value → World → Prop) : denFn prog Tryz.f26 T26 [s_p0, id_p1, scopes_p2, now_p3] w K = B26 s_p0 id_p1 scopes_p2 now_p3 w K := by kernel_rfl
theorem c26 {s_p0 id_p1 scopes_p2 now_p3 : Value} {w : World} {K : Value → World → Prop} (h : B26 s_p0 id_p1 scopes_p2 now_p3 w K) : Calls prog 26 #[s_p0, id_p1, scopes_p2, now_p3] w (Ret K) :=
  denFn_calls Tryz.func26 T26_ok (Eq.mpr (B26_eq s_p0 id_p1 scopes_p2 now_p3 w K) h)

-- 112 slices.heapSortOrdered[int]
def T112 : Ann := (.seq .none (.seq .none (.seq .none (.seq (.seq .none (.block (.loop 133956096 [9] (.seq (.seq .none (.seq .none .none)) (.seq (.block .none) .none))))) (.seq .none (.block (.loop 72057593501058048 [10] (.seq (.seq .none (.seq .none .none)) (.seq (.block (.seq (.draw [.op 0 .pure, .op 1 .pure, .op 2 .pure, .op 3 .pure, .op 4 .pure, .op 5 .pure, .op 6 .pure, .op 7 .pure, .op 8 .pure, .op 9 .pure, .op 10 .pure, .op 12 .pure, .op 13 .pure, .op 14 .pure, .op 11 .load, .op 15 .load, .op 16 .pure, .op 17 .eff, .op 18 .pure, .op 19 .eff]) .none)) .none)))))))))
theorem T112_ok : chkFn prog Tryz.f112 T112 = true := by kernel_rfl
def B112 (data_p0 a_p1 b_p2 : Value) (w : World) (K : Value → World → Prop) : Prop :=
  pvv prog (binOp .sub 3 b_p2 a_p1) w fun t_0 w =>
  pvv prog (binOp .sub 3 t_0 (.int .i64 1)) w fun t_1 w =>
  pvv prog (binOp .quo 3 t_1 (.int .i64 2)) w fun t_2 w =>
  lp (fun σ w again_4 => pop σ fun i_3 σ => fin σ <|
    pvv prog (binOp .geq 3 i_3 (.int .i64 0)) w fun t_5 w =>
    cd t_5 (
      Calls prog 129 #[data_p0, i_3, t_0, a_p1] w (Ret fun t_6 w =>
      pvv prog (binOp .sub 3 i_3 (.int .i64 1)) w fun t_7 w =>
      again_4 [t_7] w)) <|
    pvv prog (binOp .sub 3 t_0 (.int .i64 1)) w fun t_8 w =>
    lp (fun σ w again_10 => pop σ fun i_9 σ => fin σ <|
      pvv prog (binOp .geq 3 i_9 (.int .i64 0)) w fun t_11 w =>
      cd t_11 (
        dr w fun w =>
        pvv prog (binOp .add 3 a_p1 i_9) w fun t_12 w =>
        pvv prog (binOp .add 3 a_p1 i_9) w fun t_13 w =>
        pvv prog (Instr.indexAt 23 data_p0 t_13) w fun t_14 w =>
        pvv prog (Instr.indexAt 23 data_p0 a_p1) w fun t_15 w =>
        bindS (vN (Instr.loadAt 3 t_14)) fun m_17 => ldv prog (Instr.loadAt 3 t_14) w fun t_16 w =>
        bindS (vN (Instr.loadAt 3 t_15)) fun m_19 => ldv prog (Instr.loadAt 3 t_15) w fun t_18 w =>
        pvv prog (Instr.indexAt 23 data_p0 a_p1) w fun t_20 w =>
        efu prog (Instr.storeAt 3 t_20 t_16) w fun u_21 w =>
        pvv prog (Instr.indexAt 23 data_p0 t_12) w fun t_22 w =>
        efu prog (Instr.storeAt 3 t_22 t_18) w fun u_23 w =>
        Calls prog 129 #[data_p0, (.int .i64 0), i_9, a_p1] w (Ret fun t_24 w =>
        pvv prog (binOp .sub 3 i_9 (.int .i64 1)) w fun t_25 w =>
        again_10 [t_25] w)) <|
      K (.tuple #[]) w) [t_8] w) [t_2] w
theorem B112_eq (data_p0 a_p1 b_p2 : Value) (w : World) (K : Value → World → Prop) : denFn prog Tryz.f112 T112 [data_p0, a_p1, b_p2] w K = B112 data_p0 a_p1 b_p2 w K := by kernel_rfl
theorem c112 {data_p0 a_p1 b_p2 : Value} {w : World} {K : Value → World → Prop} (h : B112 data_p0 a_p1 b_p2 w K) : Calls prog 112 #[data_p0, a_p1, b_p2] w (Ret K) :=
  denFn_calls Tryz.func112 T112_ok (Eq.mpr (B112_eq data_p0 a_p1 b_p2 w K) h)

-- 51 (*holdfast/token.Store).fresh
def T51 : Ann := (.seq .none (.seq .none (.seq (.draw [.op 0 .pure, .op 1 .pure, .op 2 .pure, .op 3 .pure, .op 5 .pure, .op 4 .load, .op 6 .load, .op 7 .load, .op 8 .eff]) (.seq .none (.seq .none .none)))))
theorem T51_ok : chkFn prog Tryz.f51 T51 = true := by kernel_rfl
def B51 (s_p0 family_p1 scopes_p2 until_p3 : Value) (w : World) (K : Value → World → Prop) : Prop :=
  efv prog (Instr.alloc 49 true (.tuple #[])) w fun t_0 w =>
  pv prog (oNil s_p0) w fun t_1 w =>
  pvv prog (Instr.fieldAt 67 t_1 1) w fun t_2 w =>
  pvv prog (Instr.fieldAt 65 t_2 0) w fun t_3 w =>
  ldv prog (Instr.loadAt 3 t_3) w fun t_4 w =>
  pv prog (oBi .min #[3, 3] 3 #[false, true] #[until_p3, (.int .i64 1099511627776)]) w fun t_5 w =>
  pvv prog (Instr.build 49 #[(0, t_4), (1, family_p1), (2, scopes_p2), (3, t_5)]) w fun t_6 w =>
  efv prog (Instr.alloc 49 true (.tuple #[])) w fun t_7 w =>
  efu prog (Instr.storeAt 49 t_7 t_6) w fun u_8 w =>
  dr w fun w =>
  pv prog (oNil s_p0) w fun t_9 w =>
  pvv prog (Instr.fieldAt 67 t_9 1) w fun t_10 w =>
  pvv prog (Instr.fieldAt 65 t_10 1) w fun t_11 w =>
  pvv prog (Instr.fieldAt 49 t_7 0) w fun t_12 w =>
  bindS (vN (Instr.loadAt 63 t_11)) fun m_14 => ldv prog (Instr.loadAt 63 t_11) w fun t_13 w =>
  bindS (vN (Instr.loadAt 3 t_12)) fun m_16 => ldv prog (Instr.loadAt 3 t_12) w fun t_15 w =>
  bindS (vN (Instr.loadAt 49 t_7)) fun m_18 => ldv prog (Instr.loadAt 49 t_7) w fun t_17 w =>
  efu prog (Instr.mapUpdate 63 t_13 t_15 t_17) w fun u_19 w =>
  pv prog (oNil s_p0) w fun t_20 w =>
  pvv prog (Instr.fieldAt 67 t_20 1) w fun t_21 w =>
  pvv prog (Instr.fieldAt 65 t_21 0) w fun t_22 w =>
  ldv prog (Instr.loadAt 3 t_22) w fun t_23 w =>
  pvv prog (binOp .add 3 t_23 (.int .i64 1)) w fun t_24 w =>
  pv prog (oNil s_p0) w fun t_25 w =>
  pvv prog (Instr.fieldAt 67 t_25 1) w fun t_26 w =>
  pvv prog (Instr.fieldAt 65 t_26 0) w fun t_27 w =>
  efu prog (Instr.storeAt 3 t_27 t_24) w fun u_28 w =>
  ldv prog (Instr.loadAt 49 t_7) w fun t_29 w =>
  efu prog (Instr.storeAt 49 t_0 t_29) w fun u_30 w =>
  ∃ r_31, (do loadVar 49 (← asAddr t_0)).run prog w = .ok r_31 w ∧ K r_31 w
theorem B51_eq (s_p0 family_p1 scopes_p2 until_p3 : Value) (w : World) (K : Value → World → Prop) : denFn prog Tryz.f51 T51 [s_p0, family_p1, scopes_p2, until_p3] w K = B51 s_p0 family_p1 scopes_p2 until_p3 w K := by kernel_rfl
theorem c51 {s_p0 family_p1 scopes_p2 until_p3 : Value} {w : World} {K : Value → World → Prop} (h : B51 s_p0 family_p1 scopes_p2 until_p3 w K) : Calls prog 51 #[s_p0, family_p1, scopes_p2, until_p3] w (Ret K) :=
  denFn_calls Tryz.func51 T51_ok (Eq.mpr (B51_eq s_p0 family_p1 scopes_p2 until_p3 w K) h)

-- 72 strings.Trim
def T72 : Ann := (.seq .none (.seq (.seq .none (.seq (.seq .none .none) .none)) (.seq (.seq .none (.seq (.seq (.draw [.op 0 .pure, .op 1 .pure, .op 2 .pure, .op 4 .pure, .op 5 .pure, .op 3 .eff, .op 6 .eff, .op 7 .pure]) .none) .none)) (.seq (.seq .none (.seq .none (.seq (.seq .none .none) .none))) (.seq .none .none)))))
theorem T72_ok : chkFn prog Tryz.f72 T72 = true := by kernel_rfl
def B72 (s_p0 cutset_p1 : Value) (w : World) (K : Value → World → Prop) : Prop :=
  pvv prog (oEq .eql 9 (.tmp 7) (.const (.string ⟨#[]⟩)) s_p0 (.string ⟨#[]⟩)) w fun t_0 w =>
  gate (some (t_0, false)) (fun K => K cutset_p1 w) w fun t_1 w =>
  gate (some (t_0, false)) (fun K => pvv prog (oEq .eql 9 (.tmp 10) (.const (.string ⟨#[]⟩)) t_1 (.string ⟨#[]⟩)) w K) w fun t_2 w =>
  pv prog (oPick t_0 (.bool true) t_2) w fun t_3 w =>
  cd t_3 (
    K s_p0 w) <|
  pv prog (oBi .len #[9] 3 #[false] #[cutset_p1]) w fun t_4 w =>
  pvv prog (oEq .eql 3 (.tmp 15) (.const (.int .i64 1)) t_4 (.int .i64 1)) w fun t_5 w =>
  gate (some (t_5, true)) (fun K => K cutset_p1 w) w fun t_6 w =>
  gate (some (t_5, true)) (fun K => pvv prog (Instr.index 9 t_6 (.int .i64 0)) w K) w fun t_7 w =>
  gate (some (t_5, true)) (fun K => pvv prog (binOp .lss 5 t_7 (.int .u8 128)) w K) w fun t_8 w =>
  pv prog (oPick t_5 t_8 (.bool false)) w fun t_9 w =>
  cd t_9 (
    dr w fun w =>
    pvv prog (Instr.index 9 cutset_p1 (.int .i64 0)) w fun t_10 w =>
    pvv prog (Instr.index 9 cutset_p1 (.int .i64 0)) w fun t_11 w =>
    Calls prog 92 #[s_p0, t_10] w (Ret fun t_12 w =>
    Calls prog 91 #[t_12, t_11] w (Ret fun t_13 w =>
    K t_13 w))) <|
  Calls prog 93 #[cutset_p1] w (Ret fun t_16 w =>
  pvv prog (Instr.extract t_16 0) w fun t_17 w =>
  pvv prog (Instr.extract t_16 1) w fun t_18 w =>
  efv prog (Instr.alloc 126 true (.tuple #[])) w fun as_19 w =>
  efu prog (Instr.storeAt 126 as_19 t_17) w fun u_20 w =>
  cd t_18 (
    Calls prog 95 #[s_p0, as_19] w (Ret fun t_21 w =>
    Calls prog 94 #[t_21, as_19] w (Ret fun t_22 w =>
    K t_22 w))) <|
  Calls prog 97 #[s_p0, cutset_p1] w (Ret fun t_23 w =>
  Calls prog 96 #[t_23, cutset_p1] w (Ret fun t_24 w =>
  K t_24 w)))
theorem B72_eq (s_p0 cutset_p1 : Value) (w : World) (K : Value → World → Prop) : denFn prog Tryz.f72 T72 [s_p0, cutset_p1] w K = B72 s_p0 cutset_p1 w K := by kernel_rfl
theorem c72 {s_p0 cutset_p1 : Value} {w : World} {K : Value → World → Prop} (h : B72 s_p0 cutset_p1 w K) : Calls prog 72 #[s_p0, cutset_p1] w (Ret K) :=
  denFn_calls Tryz.func72 T72_ok (Eq.mpr (B72_eq s_p0 cutset_p1 w K) h)

-- 89 math/bits.Len32
def T89 : Ann := (.seq .none (.meet 125 [0, 2] (.seq .none (.seq (.seq .none .none) .none)) (.meet 8069 [0, 2] (.seq .none (.seq (.seq .none .none) .none)) (.seq .none .none))))
theorem T89_ok : chkFn prog Tryz.f89 T89 = true := by kernel_rfl
def B89 (x_p0 : Value) (w : World) (K : Value → World → Prop) : Prop :=
  jn (fun σ w => pop σ fun x_0 σ => pop σ fun n_1 σ => fin σ <|
    jn (fun σ w => pop σ fun x_2 σ => pop σ fun n_3 σ => fin σ <|
      pvv prog (convert 121 5 x_2) w fun t_4 w =>
      pvv prog (Instr.index 9 (.string ⟨#[0, 1, 2, 2, 3, 3, 3, 3, 4, 4, 4, 4, 4, 4, 4, 4, 5, 5, 5, 5, 5, 5, 5, 5, 5, 5, 5, 5, 5, 5, 5, 5, 6, 6, 6, 6, 6, 6, 6, 6, 6, 6, 6, 6, 6, 6, 6, 6, 6, 6, 6, 6, 6, 6, 6, 6, 6, 6, 6, 6, 6, 6, 6, 6, 7, 7, 7, 7, 7, 7, 7, 7, 7, 7, 7, 7, 7, 7, 7, 7, 7, 7, 7, 7, 7, 7, 7, 7, 7, 7, 7, 7, 7, 7, 7, 7, 7, 7, 7, 7, 7, 7, 7, 7, 7, 7, 7, 7, 7, 7, 7, 7, 7, 7, 7, 7, 7, 7, 7, 7, 7, 7, 7, 7, 7, 7, 7, 7, 8, 8, 8, 8, 8, 8, 8, 8, 8, 8, 8, 8, 8, 8, 8, 8, 8, 8, 8, 8, 8, 8, 8, 8, 8, 8, 8, 8, 8, 8, 8, 8, 8, 8, 8, 8, 8, 8, 8, 8, 8, 8, 8, 8, 8, 8, 8, 8, 8, 8, 8, 8, 8, 8, 8, 8, 8, 8, 8, 8, 8, 8, 8, 8, 8, 8, 8, 8, 8, 8, 8, 8, 8, 8, 8, 8, 8, 8, 8, 8, 8, 8, 8, 8, 8, 8, 8, 8, 8, 8, 8, 8, 8, 8, 8, 8, 8, 8, 8, 8, 8, 8, 8, 8, 8, 8, 8, 8, 8, 8, 8, 8, 8, 8, 8, 8, 8, 8, 8, 8, 8, 8, 8, 8, 8, 8, 8, 8]⟩) t_4) w fun t_5 w =>
      pvv prog (convert 5 3 t_5) w fun t_6 w =>
      pvv prog (binOp .add 3 n_3 t_6) w fun t_7 w =>
      K t_7 w) fun k_8 =>
    pvv prog (binOp .geq 121 x_0 (.int .u32 256)) w fun t_9 w =>
    cd t_9 (
      pvv prog (binOp .shr 121 x_0 (.int .u64 8)) w fun t_10 w =>
      pvv prog (binOp .add 3 n_1 (.int .i64 8)) w fun t_11 w =>
      k_8 [t_10, t_11] w) <|
    k_8 [x_0, n_1] w) fun k_12 =>
  pvv prog (binOp .geq 121 x_p0 (.int .u32 65536)) w fun t_13 w =>
  cd t_13 (
    pvv prog (binOp .shr 121 x_p0 (.int .u64 16)) w fun t_14 w =>
    k_12 [t_14, (.int .i64 16)] w) <|
  k_12 [x_p0, (.int .i64 0)] w
theorem B89_eq (x_p0 : Value) (w : World) (K : Value → World → Prop) : denFn prog Tryz.f89 T89 [x_p0] w K = B89 x_p0 w K := by kernel_rfl
theorem c89 {x_p0 : Value} {w : World} {K : Value → World → Prop} (h : B89 x_p0 w K) : Calls prog 89 #[x_p0] w (Ret K) :=
  denFn_calls Tryz.func89 T89_ok (Eq.mpr (B89_eq x_p0 w K) h)

-- 34 (*holdfast/token.Store).ends
def T34 : Ann := (.seq .none (.seq (.seq .none (.seq (.seq .none .none) .none)) (.seq .none (.seq (.seq .none (.block (.loop 2147352736 [5, 17] (.seq .none (.seq (.seq .none .none) (.seq (.block (.seq .none (.seq .none .none))) .none)))))) (.seq .none .none)))))
theorem T34_ok : chkFn prog Tryz.f34 T34 = true := by kernel_rfl
def B34 (s_p0 is_p1 : Value) (w : World) (K : Value → World → Prop) : Prop :=
  pvv prog (oEq .eql 24 (.tmp 8) (.const (.pointer none)) s_p0 (.pointer none)) w fun t_0 w =>
  cd t_0 (
    K (.slice none 0 0) w) <|
  pv prog (oNil s_p0) w fun t_1 w =>
  pvv prog (Instr.fieldAt 67 t_1 0) w fun t_2 w =>
  ldv prog (Instr.loadAt 62 t_2) w fun t_3 w =>
  Calls prog 41 #[t_3, is_p1] w (Ret fun t_4 w =>
  pv prog (oBi .len #[43] 3 #[false] #[t_4]) w fun t_5 w =>
  lp (fun σ w again_8 => pop σ fun out_6 σ => pop σ fun t_7 σ => fin σ <|
    pvv prog (binOp .lss 3 t_7 t_5) w fun t_9 w =>
    cd t_9 (
      pvv prog (Instr.indexAt 43 t_4 t_7) w fun t_10 w =>
      ldv prog (Instr.loadAt 35 t_10) w fun t_11 w =>
      efv prog (Instr.alloc 35 true (.tuple #[])) w fun f_12 w =>
      efu prog (Instr.storeAt 35 f_12 t_11) w fun u_13 w =>
      pvv prog (Instr.fieldAt 35 f_12 0) w fun t_14 w =>
      ldv prog (Instr.loadAt 3 t_14) w fun t_15 w =>
      Calls prog 52 #[s_p0, t_15] w (Ret fun t_16 w =>
      pvv prog (Instr.fieldAt 35 f_12 0) w fun t_17 w =>
      ldv prog (Instr.loadAt 3 t_17) w fun t_18 w =>
      efv prog (Instr.buildSlice 23 1 #[(0, t_18)]) w fun t_19 w =>
      ef prog (oBi .append #[23, 23] 23 #[false, false] #[out_6, t_19]) w fun t_20 w =>
      pvv prog (binOp .add 3 t_7 (.int .i64 1)) w fun t_21 w =>
      again_8 [t_20, t_21] w)) <|
    K out_6 w) [(.slice none 0 0), (.int .i64 0)] w)
theorem B34_eq (s_p0 is_p1 : Value) (w : World) (K : Value → World → Prop) : denFn prog Tryz.f34 T34 [s_p0, is_p1] w K = B34 s_p0 is_p1 w K := by kernel_rfl
theorem c34 {s_p0 is_p1 : Value} {w : World} {K : Value → World → Prop} (h : B34 s_p0 is_p1 w K) : Calls prog 34 #[s_p0, is_p1] w (Ret K) :=
  denFn_calls Tryz.func34 T34_ok (Eq.mpr (B34_eq s_p0 is_p1 w K) h)

-- 127 strings.IndexRune
def T127 : Ann := (.seq .none (.block (.seq .none (.seq (.seq .none .none) (.seq .none (.seq (.seq (.seq .none (.block (.loop 12164183355622992813219379528005579144973741782332342384 [] (.seq .none (.seq (.seq .none .none) (.block (.seq .none (.seq .none (.seq (.seq .none .none) .none))))))))) (.seq .none .none)) (.seq .none (.seq (.seq .none .none) .none))))))))
theorem T127_ok : chkFn prog Tryz.f127 T127 = true := by kernel_rfl
def B127 (s_p0 r_p1 : Value) (w : World) (K : Value → World → Prop) : Prop :=
  pvv prog (binOp .leq 21 (.int .i32 0) r_p1) w fun t_0 w =>
  gate (some (t_0, true)) (fun K => K r_p1 w) w fun t_1 w =>
  gate (some (t_0, true)) (fun K => pvv prog (binOp .lss 21 t_1 (.int .i32 128)) w K) w fun t_2 w =>
  pv prog (oPick t_0 t_2 (.bool false)) w fun t_3 w =>
  cd t_3 (
    pvv prog (convert 21 5 r_p1) w fun t_4 w =>
    Calls prog 137 #[s_p0, t_4] w (Ret fun t_5 w =>
    K t_5 w)) <|
  pvv prog (oEq .eql 21 (.tmp 172) (.const (.int .i32 65533)) r_p1 (.int .i32 65533)) w fun t_6 w =>
  cd t_6 (
    efv prog (Instr.range 9 s_p0) w fun t_7 w =>
    lp (fun σ w again_8 => fin σ <|
      efv prog (Instr.next t_7 true 0) w fun t_9 w =>
      pvv prog (Instr.extract t_9 0) w fun t_10 w =>
      cd t_10 (
        pvv prog (Instr.extract t_9 1) w fun t_11 w =>
        pvv prog (Instr.extract t_9 2) w fun t_12 w =>
        pvv prog (oEq .eql 21 (.tmp 180) (.const (.int .i32 65533)) t_12 (.int .i32 65533)) w fun t_13 w =>
        cd t_13 (
          K t_11 w) <|
        again_8 [] w) <|
      K (.int .i64 (-1)) w) [] w) <|
  Calls prog 138 #[r_p1] w (Ret fun t_14 w =>
  pvv prog (Op.unary .not t_14) w fun t_15 w =>
  cd t_15 (
    K (.int .i64 (-1)) w) <|
  False)
theorem B127_eq (s_p0 r_p1 : Value) (w : World) (K : Value → World → Prop) : denFn prog Tryz.f127 T127 [s_p0, r_p1] w K = B127 s_p0 r_p1 w K := by kernel_rfl
theorem c127 {s_p0 r_p1 : Value} {w : World} {K : Value → World → Prop} (h : B127 s_p0 r_p1 w K) : Calls prog 127 #[s_p0, r_p1] w (Ret K) :=
  denFn_calls Tryz.func127 T127_ok (Eq.mpr (B127_eq s_p0 r_p1 w K) h)

-- 141 slices.order2Ordered[int]
def T141 : Ann := (.seq .none (.seq (.seq (.draw [.op 0 .pure, .op 1 .pure, .op 2 .pure, .op 4 .pure, .op 5 .pure, .op 6 .pure, .op 3 .load, .op 7 .load, .op 8 .eff]) (.seq (.seq .none (.seq .none .none)) .none)) (.seq .none .none)))
theorem T141_ok : chkFn prog Tryz.f141 T141 = true := by kernel_rfl
def B141 (data_p0 a_p1 b_p2 swaps_p3 : Value) (w : World) (K : Value → World → Prop) : Prop :=
  dr w fun w =>
  pvv prog (Instr.indexAt 23 data_p0 b_p2) w fun t_0 w =>
  pvv prog (Instr.indexAt 23 data_p0 a_p1) w fun t_1 w =>
  bindS (vN (Instr.loadAt 3 t_0)) fun m_3 => ldv prog (Instr.loadAt 3 t_0) w fun t_2 w =>
  bindS (vN (Instr.loadAt 3 t_1)) fun m_5 => ldv prog (Instr.loadAt 3 t_1) w fun t_4 w =>
  Calls prog 117 #[t_2, t_4] w (Ret fun t_6 w =>
  cd t_6 (
    pv prog (oNil swaps_p3) w fun t_7 w =>
    ldv prog (Instr.loadAt 3 t_7) w fun t_8 w =>
    pvv prog (binOp .add 3 t_8 (.int .i64 1)) w fun t_9 w =>
    pv prog (oNil swaps_p3) w fun t_10 w =>
    efu prog (Instr.storeAt 3 t_10 t_9) w fun u_11 w =>
    K (.tuple #[b_p2, a_p1]) w) <|
  K (.tuple #[a_p1, b_p2]) w)
theorem B141_eq (data_p0 a_p1 b_p2 swaps_p3 : Value) (w : World) (K : Value → World → Prop) : denFn prog Tryz.f141 T141 [data_p0, a_p1, b_p2, swaps_p3] w K = B141 data_p0 a_p1 b_p2 swaps_p3 w K := by kernel_rfl
theorem c141 {data_p0 a_p1 b_p2 swaps_p3 : Value} {w : World} {K : Value → World → Prop} (h : B141 data_p0 a_p1 b_p2 swaps_p3 w K) : Calls prog 141 #[data_p0, a_p1, b_p2, swaps_p3] w (Ret K) :=
  denFn_calls Tryz.func141 T141_ok (Eq.mpr (B141_eq data_p0 a_p1 b_p2 swaps_p3 w K) h)

-- 54 maps.DeleteFunc[map[int]holdfast/api.Token,int,holdfast/api.Token]
def T54 : Ann := (.seq .none (.block (.loop 524080 [] (.seq .none (.seq (.seq .none .none) (.block (.seq .none (.seq .none (.seq .none .none)))))))))
theorem T54_ok : chkFn prog Tryz.f54 T54 = true := by kernel_rfl
def B54 (m_p0 del_p1 : Value) (w : World) (K : Value → World → Prop) : Prop :=
  efv prog (Instr.range 63 m_p0) w fun t_0 w =>
  lp (fun σ w again_1 => fin σ <|
    efv prog (Instr.next t_0 false 0) w fun t_2 w =>
    pvv prog (Instr.extract t_2 0) w fun t_3 w =>
    cd t_3 (
      efv prog (Instr.entry t_0) w fun t_4 w =>
      pvv prog (Instr.extract t_4 0) w fun t_5 w =>
      pvv prog (Instr.extract t_4 1) w fun t_6 w =>
      efv prog (Instr.alloc 49 true (.tuple #[])) w fun v_7 w =>
      efu prog (Instr.storeAt 49 v_7 t_6) w fun u_8 w =>
      ldv prog (Instr.loadAt 49 v_7) w fun t_9 w =>
      ef prog (oCall del_p1 #[t_5, t_9]) w fun t_10 w =>
      cd t_10 (
        ef prog (oBi .delete #[63, 3] 0 #[false, false] #[m_p0, t_5]) w fun u_11 w =>
        again_1 [] w) <|
      again_1 [] w) <|
    K (.tuple #[]) w) [] w
theorem B54_eq (m_p0 del_p1 : Value) (w : World) (K : Value → World → Prop) : denFn prog Tryz.f54 T54 [m_p0, del_p1] w K = B54 m_p0 del_p1 w K := by kernel_rfl
theorem c54 {m_p0 del_p1 : Value} {w : World} {K : Value → World → Prop} (h : B54 m_p0 del_p1 w K) : Calls prog 54 #[m_p0, del_p1] w (Ret K) :=
  denFn_calls Tryz.func54 T54_ok (Eq.mpr (B54_eq m_p0 del_p1 w K) h)

-- 59 (*holdfast/holdfastref12.Store).time
def T59 : Ann := (.seq .none (.seq (.block (.seq .none (.seq (.seq .none .none) (.seq .none (.seq (.seq .none .none) (.seq .none (.seq (.seq .none .none) .none))))))) (.seq .none .none)))
theorem T59_ok : chkFn prog Tryz.f59 T59 = true := by kernel_rfl
def B59 (s_p0 now_p1 : Value) (w : World) (K : Value → World → Prop) : Prop :=
  pvv prog (oEq .eql 26 (.tmp 6) (.const (.pointer none)) s_p0 (.pointer none)) w fun t_0 w =>
  cd t_0 (
    K (.int .i64 1) w) <|
  pvv prog (binOp .lss 3 now_p1 (.int .i64 0)) w fun t_1 w =>
  gate (some (t_1, false)) (fun K => K now_p1 w) w fun t_2 w =>
  gate (some (t_1, false)) (fun K => pvv prog (binOp .gtr 3 t_2 (.int .i64 1099511627776)) w K) w fun t_3 w =>
  pv prog (oPick t_1 (.bool true) t_3) w fun t_4 w =>
  cd t_4 (
    K (.int .i64 2) w) <|
  pv prog (oNil s_p0) w fun t_5 w =>
  pvv prog (Instr.fieldAt 69 t_5 2) w fun t_6 w =>
  ldv prog (Instr.loadAt 3 t_6) w fun t_7 w =>
  pvv prog (binOp .lss 3 now_p1 t_7) w fun t_8 w =>
  cd t_8 (
    K (.int .i64 9) w) <|
  K (.int .i64 0) w
theorem B59_eq (s_p0 now_p1 : Value) (w : World) (K : Value → World → Prop) : denFn prog Tryz.f59 T59 [s_p0, now_p1] w K = B59 s_p0 now_p1 w K := by kernel_rfl
theorem c59 {s_p0 now_p1 : Value} {w : World} {K : Value → World → Prop} (h : B59 s_p0 now_p1 w K) : Calls prog 59 #[s_p0, now_p1] w (Ret K) :=
  denFn_calls Tryz.func59 T59_ok (Eq.mpr (B59_eq s_p0 now_p1 w K) h)

-- 108 unicode/utf8.DecodeRuneInString
def T108 : Ann := (.seq .none (.seq (.seq .none (.seq (.seq .none .none) .none)) .none))
theorem T108_ok : chkFn prog Tryz.f108 T108 = true := by kernel_rfl
def B108 (s_p0 : Value) (w : World) (K : Value → World → Prop) : Prop :=
  pvv prog (oEq .neq 9 (.tmp 4) (.const (.string ⟨#[]⟩)) s_p0 (.string ⟨#[]⟩)) w fun t_0 w =>
  gate (some (t_0, true)) (fun K => K s_p0 w) w fun t_1 w =>
  gate (some (t_0, true)) (fun K => pvv prog (Instr.index 9 t_1 (.int .i64 0)) w K) w fun t_2 w =>
  gate (some (t_0, true)) (fun K => pvv prog (binOp .lss 5 t_2 (.int .u8 128)) w K) w fun t_3 w =>
  pv prog (oPick t_0 t_3 (.bool false)) w fun t_4 w =>
  cd t_4 (
    pvv prog (Instr.index 9 s_p0 (.int .i64 0)) w fun t_5 w =>
    pvv prog (convert 5 21 t_5) w fun t_6 w =>
    K (.tuple #[t_6, (.int .i64 1)]) w) <|
  Calls prog 126 #[s_p0] w (Ret fun t_7 w =>
  pvv prog (Instr.extract t_7 0) w fun t_8 w =>
  pvv prog (Instr.extract t_7 1) w fun t_9 w =>
  K (.tuple #[t_8, t_9]) w)
theorem B108_eq (s_p0 : Value) (w : World) (K : Value → World → Prop) : denFn prog Tryz.f108 T108 [s_p0] w K = B108 s_p0 w K := by kernel_rfl
theorem c108 {s_p0 : Value} {w : World} {K : Value → World → Prop} (h : B108 s_p0 w K) : Calls prog 108 #[s_p0] w (Ret K) :=
  denFn_calls Tryz.func108 T108_ok (Eq.mpr (B108_eq s_p0 w K) h)

-- 138 unicode/utf8.ValidRune
def T138 : Ann := (.seq .none (.seq (.block (.seq .none (.seq (.seq .none .none) (.seq .none (.seq (.seq .none .none) .none))))) (.seq .none .none)))
theorem T138_ok : chkFn prog Tryz.f138 T138 = true := by kernel_rfl
def B138 (r_p0 : Value) (w : World) (K : Value → World → Prop) : Prop :=
  pvv prog (binOp .leq 21 (.int .i32 0) r_p0) w fun t_0 w =>
  gate (some (t_0, true)) (fun K => K r_p0 w) w fun t_1 w =>
  gate (some (t_0, true)) (fun K => pvv prog (binOp .lss 21 t_1 (.int .i32 55296)) w K) w fun t_2 w =>
  pv prog (oPick t_0 t_2 (.bool false)) w fun t_3 w =>
  cd t_3 (
    K (.bool true) w) <|
  pvv prog (binOp .lss 21 (.int .i32 57343) r_p0) w fun t_4 w =>
  gate (some (t_4, true)) (fun K => K r_p0 w) w fun t_5 w =>
  gate (some (t_4, true)) (fun K => pvv prog (binOp .leq 21 t_5 (.int .i32 1114111)) w K) w fun t_6 w =>
  pv prog (oPick t_4 t_6 (.bool false)) w fun t_7 w =>
  cd t_7 (
    K (.bool true) w) <|
  K (.bool false) w
theorem B138_eq (r_p0 : Value) (w : World) (K : Value → World → Prop) : denFn prog Tryz.f138 T138 [r_p0] w K = B138 r_p0 w K := by kernel_rfl
theorem c138 {r_p0 : Value} {w : World} {K : Value → World → Prop} (h : B138 r_p0 w K) : Calls prog 138 #[r_p0] w (Ret K) :=
  denFn_calls Tryz.func138 T138_ok (Eq.mpr (B138_eq r_p0 w K) h)

-- 64 slices.Index[[]int,int]
def T64 : Ann := (.seq .none (.seq (.seq .none (.block (.loop 524080 [8] (.seq .none (.seq (.seq .none .none) (.seq (.block (.seq .none (.seq .none (.seq (.seq .none .none) .none)))) .none)))))) (.seq .none .none)))
theorem T64_ok : chkFn prog Tryz.f64 T64 = true := by kernel_rfl
def B64 (s_p0 v_p1 : Value) (w : World) (K : Value → World → Prop) : Prop :=
  pv prog (oBi .len #[23] 3 #[false] #[s_p0]) w fun t_0 w =>
  lp (fun σ w again_2 => pop σ fun t_1 σ => fin σ <|
    pvv prog (binOp .lss 3 t_1 t_0) w fun t_3 w =>
    cd t_3 (
      pvv prog (Instr.indexAt 23 s_p0 t_1) w fun t_4 w =>
      ldv prog (Instr.loadAt 3 t_4) w fun t_5 w =>
      pvv prog (oEq .eql 3 (.tmp 11) (.tmp 15) v_p1 t_5) w fun t_6 w =>
      cd t_6 (
        K t_1 w) <|
      pvv prog (binOp .add 3 t_1 (.int .i64 1)) w fun t_7 w =>
      again_2 [t_7] w) <|
    K (.int .i64 (-1)) w) [(.int .i64 0)] w
theorem B64_eq (s_p0 v_p1 : Value) (w : World) (K : Value → World → Prop) : denFn prog Tryz.f64 T64 [s_p0, v_p1] w K = B64 s_p0 v_p1 w K := by kernel_rfl
theorem c64 {s_p0 v_p1 : Value} {w : World} {K : Value → World → Prop} (h : B64 s_p0 v_p1 w K) : Calls prog 64 #[s_p0, v_p1] w (Ret K) :=
  denFn_calls Tryz.func64 T64_ok (Eq.mpr (B64_eq s_p0 v_p1 w K) h)

-- 117 cmp.Less[int]
def T117 : Ann := (.seq .none (.seq .none .none))
theorem T117_ok : chkFn prog Tryz.f117 T117 = true := by kernel_rfl
def B117 (x_p0 y_p1 : Value) (w : World) (K : Value → World → Prop) : Prop :=
  Calls prog 132 #[x_p0] w (Ret fun t_0 w =>
  gate (some (t_0, true)) (fun K => K y_p1 w) w fun t_1 w =>
  gate (some (t_0, true)) (fun K => Calls prog 132 #[t_1] w (Ret K)) w fun t_2 w =>
  gate (some (t_0, true)) (fun K => pvv prog (Op.unary .not t_2) w K) w fun t_3 w =>
  pv prog (oPick t_0 t_3 (.bool false)) w fun t_4 w =>
  gate (some (t_4, false)) (fun K => K x_p0 w) w fun t_5 w =>
  gate (some (t_4, false)) (fun K => K y_p1 w) w fun t_6 w =>
  gate (some (t_4, false)) (fun K => pvv prog (binOp .lss 3 t_5 t_6) w K) w fun t_7 w =>
  pv prog (oPick t_4 (.bool true) t_7) w fun t_8 w =>
  K t_8 w)
theorem B117_eq (x_p0 y_p1 : Value) (w : World) (K : Value → World → Prop) : denFn prog Tryz.f117 T117 [x_p0, y_p1] w K = B117 x_p0 y_p1 w K := by kernel_rfl
theorem c117 {x_p0 y_p1 : Value} {w : World} {K : Value → World → Prop} (h : B117 x_p0 y_p1 w K) : Calls prog 117 #[x_p0, y_p1] w (Ret K) :=
  denFn_calls Tryz.func117 T117_ok (Eq.mpr (B117_eq x_p0 y_p1 w K) h)

-- 30 (*holdfast/holdfastref12.Store).EndClient
def T30 : Ann := (.seq .none (.seq (.seq .none (.seq (.seq .none .none) .none)) (.seq .none .none)))
theorem T30_ok : chkFn prog Tryz.f30 T30 = true := by kernel_rfl
def B30 (s_p0 client_p1 sessions_p2 : Value) (w : World) (K : Value → World → Prop) : Prop :=
  pvv prog (oEq .eql 9 (.tmp 7) (.const (.string ⟨#[]⟩)) client_p1 (.string ⟨#[]⟩)) w fun t_0 w =>
  cd t_0 (
    K (.slice none 0 0) w) <|
  Calls prog 62 #[s_p0, client_p1, sessions_p2] w (Ret fun t_1 w =>
  K t_1 w)
theorem B30_eq (s_p0 client_p1 sessions_p2 : Value) (w : World) (K : Value → World → Prop) : denFn prog Tryz.f30 T30 [s_p0, client_p1, sessions_p2] w K = B30 s_p0 client_p1 sessions_p2 w K := by kernel_rfl
theorem c30 {s_p0 client_p1 sessions_p2 : Value} {w : World} {K : Value → World → Prop} (h : B30 s_p0 client_p1 sessions_p2 w K) : Calls prog 30 #[s_p0, client_p1, sessions_p2] w (Ret K) :=
  denFn_calls Tryz.func30 T30_ok (Eq.mpr (B30_eq s_p0 client_p1 sessions_p2 w K) h)

-- 32 maps.Clone[map[int]holdfast/api.Family,int,holdfast/api.Family]
def T32 : Ann := (.seq .none (.seq (.seq .none (.seq (.seq .none .none) .none)) (.seq .none .none)))
theorem T32_ok : chkFn prog Tryz.f32 T32 = true := by kernel_rfl
def B32 (m_p0 : Value) (w : World) (K : Value → World → Prop) : Prop :=
  pvv prog (oEq .eql 60 (.tmp 3) (.const (.map none)) m_p0 (.map none)) w fun t_0 w =>
  cd t_0 (
    K (.map none) w) <|
  pvv prog (Instr.makeInterface 60 m_p0) w fun t_1 w =>
  ef prog (oCall (.func (.func 63) #[] #[]) #[t_1]) w fun t_2 w =>
  efv prog (Instr.typeAssert t_2 20 60 false) w fun t_3 w =>
  K t_3 w
theorem B32_eq (m_p0 : Value) (w : World) (K : Value → World → Prop) : denFn prog Tryz.f32 T32 [m_p0] w K = B32 m_p0 w K := by kernel_rfl
theorem c32 {m_p0 : Value} {w : World} {K : Value → World → Prop} (h : B32 m_p0 w K) : Calls prog 32 #[m_p0] w (Ret K) :=
  denFn_calls Tryz.func32 T32_ok (Eq.mpr (B32_eq m_p0 w K) h)

-- 73 (*holdfast/token.Store).drop$1
def T73 : Ann := (.seq .none (.seq .none .none))
theorem T73_ok : chkFn prog Tryz.f73 T73 = true := by kernel_rfl
def B73 (x_p0 t_p1 x_p2 : Value) (w : World) (K : Value → World → Prop) : Prop :=
  efv prog (Instr.box 49 t_p1) w fun t_0 w =>
  pvv prog (Instr.fieldAt 49 t_0 1) w fun t_1 w =>
  ldv prog (Instr.loadAt 3 t_1) w fun t_2 w =>
  ldv prog (Instr.loadAt 3 x_p2) w fun t_3 w =>
  pvv prog (oEq .eql 3 (.tmp 7) (.tmp 8) t_2 t_3) w fun t_4 w =>
  K t_4 w
theorem B73_eq (x_p0 t_p1 x_p2 : Value) (w : World) (K : Value → World → Prop) : denFn prog Tryz.f73 T73 [x_p0, t_p1, x_p2] w K = B73 x_p0 t_p1 x_p2 w K := by kernel_rfl
theorem c73 {x_p0 t_p1 x_p2 : Value} {w : World} {K : Value → World → Prop} (h : B73 x_p0 t_p1 x_p2 w K) : Calls prog 73 #[x_p0, t_p1, x_p2] w (Ret K) :=
  denFn_calls Tryz.func73 T73_ok (Eq.mpr (B73_eq x_p0 t_p1 x_p2 w K) h)

-- 38 (*holdfast/token.Store).EndSessions$1
def T38 : Ann := (.seq .none (.seq .none .none))
theorem T38_ok : chkFn prog Tryz.f38 T38 = true := by kernel_rfl
def B38 (f_p0 x_p1 : Value) (w : World) (K : Value → World → Prop) : Prop :=
  efv prog (Instr.box 35 f_p0) w fun f_0 w =>
  ldv prog (Instr.loadAt 23 x_p1) w fun t_1 w =>
  pvv prog (Instr.fieldAt 35 f_0 1) w fun t_2 w =>
  ldv prog (Instr.loadAt 3 t_2) w fun t_3 w =>
  Calls prog 36 #[t_1, t_3] w (Ret fun t_4 w =>
  K t_4 w)
theorem B38_eq (f_p0 x_p1 : Value) (w : World) (K : Value → World → Prop) : denFn prog Tryz.f38 T38 [f_p0, x_p1] w K = B38 f_p0 x_p1 w K := by kernel_rfl
theorem c38 {f_p0 x_p1 : Value} {w : World} {K : Value → World → Prop} (h : B38 f_p0 x_p1 w K) : Calls prog 38 #[f_p0, x_p1] w (Ret K) :=
  denFn_calls Tryz.func38 T38_ok (Eq.mpr (B38_eq f_p0 x_p1 w K) h)

-- 50 (holdfast/token.row[holdfast/api.Token]).full
def T50 : Ann := (.seq .none (.seq .none .none))
theorem T50_ok : chkFn prog Tryz.f50 T50 = true := by kernel_rfl
def B50 (r_p0 : Value) (w : World) (K : Value → World → Prop) : Prop :=
  efv prog (Instr.box 65 r_p0) w fun r_0 w =>
  pvv prog (Instr.fieldAt 65 r_0 0) w fun t_1 w =>
  ldv prog (Instr.loadAt 3 t_1) w fun t_2 w =>
  pvv prog (binOp .gtr 3 t_2 (.int .i64 1099511627776)) w fun t_3 w =>
  K t_3 w
theorem B50_eq (r_p0 : Value) (w : World) (K : Value → World → Prop) : denFn prog Tryz.f50 T50 [r_p0] w K = B50 r_p0 w K := by kernel_rfl
theorem c50 {r_p0 : Value} {w : World} {K : Value → World → Prop} (h : B50 r_p0 w K) : Calls prog 50 #[r_p0] w (Ret K) :=
  denFn_calls Tryz.func50 T50_ok (Eq.mpr (B50_eq r_p0 w K) h)

-- 107 (*strings.asciiSet).contains
def T107 : Ann := (.seq .none (.seq .none .none))
theorem T107_ok : chkFn prog Tryz.f107 T107 = true := by kernel_rfl
def B107 (as_p0 c_p1 : Value) (w : World) (K : Value → World → Prop) : Prop :=
  pv prog (oNil as_p0) w fun t_0 w =>
  pvv prog (Instr.indexAt 126 t_0 c_p1) w fun t_1 w =>
  ldv prog (Instr.loadAt 4 t_1) w fun t_2 w =>
  K t_2 w
theorem B107_eq (as_p0 c_p1 : Value) (w : World) (K : Value → World → Prop) : denFn prog Tryz.f107 T107 [as_p0, c_p1] w K = B107 as_p0 c_p1 w K := by kernel_rfl
theorem c107 {as_p0 c_p1 : Value} {w : World} {K : Value → World → Prop} (h : B107 as_p0 c_p1 w K) : Calls prog 107 #[as_p0, c_p1] w (Ret K) :=
  denFn_calls Tryz.func107 T107_ok (Eq.mpr (B107_eq as_p0 c_p1 w K) h)

-- 109 strings.ContainsRune
def T109 : Ann := (.seq .none (.seq .none .none))
theorem T109_ok : chkFn prog Tryz.f109 T109 = true := by kernel_rfl
def B109 (s_p0 r_p1 : Value) (w : World) (K : Value → World → Prop) : Prop :=
  Calls prog 127 #[s_p0, r_p1] w (Ret fun t_0 w =>
  pvv prog (binOp .geq 3 t_0 (.int .i64 0)) w fun t_1 w =>
  K t_1 w)
theorem B109_eq (s_p0 r_p1 : Value) (w : World) (K : Value → World → Prop) : denFn prog Tryz.f109 T109 [s_p0, r_p1] w K = B109 s_p0 r_p1 w K := by kernel_rfl
theorem c109 {s_p0 r_p1 : Value} {w : World} {K : Value → World → Prop} (h : B109 s_p0 r_p1 w K) : Calls prog 109 #[s_p0, r_p1] w (Ret K) :=
  denFn_calls Tryz.func109 T109_ok (Eq.mpr (B109_eq s_p0 r_p1 w K) h)

-- 144 internal/stringslite.IndexByte
def T144 : Ann := (.seq .none (.seq .none .none))
theorem T144_ok : chkFn prog Tryz.f144 T144 = true := by kernel_rfl
def B144 (s_p0 c_p1 : Value) (w : World) (K : Value → World → Prop) : Prop :=
  ef prog (oCall (.func (.func 145) #[] #[]) #[s_p0, c_p1]) w fun t_0 w =>
  K t_0 w
theorem B144_eq (s_p0 c_p1 : Value) (w : World) (K : Value → World → Prop) : denFn prog Tryz.f144 T144 [s_p0, c_p1] w K = B144 s_p0 c_p1 w K := by kernel_rfl
theorem c144 {s_p0 c_p1 : Value} {w : World} {K : Value → World → Prop} (h : B144 s_p0 c_p1 w K) : Calls prog 144 #[s_p0, c_p1] w (Ret K) :=
  denFn_calls Tryz.func144 T144_ok (Eq.mpr (B144_eq s_p0 c_p1 w K) h)

-- 75 slices.Collect[int]
def T75 : Ann := (.seq .none (.seq .none .none))
theorem T75_ok : chkFn prog Tryz.f75 T75 = true := by kernel_rfl
def B75 (seq_p0 : Value) (w : World) (K : Value → World → Prop) : Prop :=
  Calls prog 98 #[(.slice none 0 0), seq_p0] w (Ret fun t_0 w =>
  K t_0 w)
theorem B75_eq (seq_p0 : Value) (w : World) (K : Value → World → Prop) : denFn prog Tryz.f75 T75 [seq_p0] w K = B75 seq_p0 w K := by kernel_rfl
theorem c75 {seq_p0 : Value} {w : World} {K : Value → World → Prop} (h : B75 seq_p0 w K) : Calls prog 75 #[seq_p0] w (Ret K) :=
  denFn_calls Tryz.func75 T75_ok (Eq.mpr (B75_eq seq_p0 w K) h)


end Go.Proofs.YtbcimkjgpplcpaaGreatDoor
