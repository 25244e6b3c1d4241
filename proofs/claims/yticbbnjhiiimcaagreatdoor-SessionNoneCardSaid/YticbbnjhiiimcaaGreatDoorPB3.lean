import Derived.Test.YticbbnjhiiimcaaGreatDoorPI
set_option linter.all false
set_option maxRecDepth 100000
namespace Go.Proofs.YticbbnjhiiimcaaGreatDoor
open Go Hold
-- 56 slices.partialInsertionSortCmpFunc[holdfast/api.Row]
def T56 : Ann := (.seq .none (.seq .none (.seq (.seq .none (.block (.loop 2787593149816327892691964784081045188222720 [9, 10] (.seq (.seq .none (.seq .none .none)) (.meet 2787593149816327892691964784081045187730176 [9] (.block (.seq (.block (.loop 549755290112 [9] (.seq (.seq (.draw [.op 0 .pure, .op 1 .pure, .op 2 .pure, .op 3 .pure, .op 4 .pure, .op 5 .pure, .op 6 .pure, .op 7 .pure, .op 9 .pure, .op 10 .pure, .op 11 .pure, .op 12 .pure, .op 8 .load, .op 13 .load, .op 14 .eff, .op 15 .pure, .op 16 .pure, .op 17 .pure]) (.seq .none .none)) (.block .none)))) (.seq (.seq .none (.seq (.seq .none .none) .none)) (.seq (.seq .none (.seq (.seq .none .none) .none)) (.seq (.draw [.op 0 .pure, .op 1 .pure, .op 2 .pure, .op 3 .pure, .op 4 .pure, .op 5 .pure, .op 6 .pure, .op 7 .pure, .op 8 .pure, .op 10 .pure, .op 11 .pure, .op 12 .pure, .op 9 .load, .op 13 .load, .op 14 .pure, .op 15 .eff, .op 16 .pure, .op 17 .eff]) (.meet 2535301200451847116974979024896 [] (.seq .none (.seq (.seq .none (.block (.loop 2535301200161310897814053586944 [11] (.seq (.seq .none (.seq .none .none)) (.seq (.block (.seq (.seq (.draw [.op 0 .pure, .op 1 .pure, .op 2 .pure, .op 3 .pure, .op 5 .pure, .op 6 .pure, .op 7 .pure, .op 8 .pure, .op 4 .load, .op 9 .load, .op 10 .eff, .op 11 .pure, .op 12 .pure]) (.seq .none .none)) (.draw [.op 0 .pure, .op 1 .pure, .op 2 .pure, .op 3 .pure, .op 4 .pure, .op 5 .pure, .op 6 .pure, .op 7 .pure, .op 8 .pure, .op 10 .pure, .op 11 .pure, .op 12 .pure, .op 9 .load, .op 13 .load, .op 14 .pure, .op 15 .eff, .op 16 .pure, .op 17 .eff]))) .none))))) .none)) (.seq .none (.seq (.seq .none (.block (.loop 2787593149654068615862751420689467177963520 [12] (.seq (.seq .none (.seq .none .none)) (.seq (.block (.seq (.seq (.draw [.op 0 .pure, .op 1 .pure, .op 2 .pure, .op 3 .pure, .op 5 .pure, .op 6 .pure, .op 7 .pure, .op 8 .pure, .op 4 .load, .op 9 .load, .op 10 .eff, .op 11 .pure, .op 12 .pure]) (.seq .none .none)) (.draw [.op 0 .pure, .op 1 .pure, .op 2 .pure, .op 3 .pure, .op 4 .pure, .op 5 .pure, .op 6 .pure, .op 7 .pure, .op 8 .pure, .op 10 .pure, .op 11 .pure, .op 12 .pure, .op 9 .load, .op 13 .load, .op 14 .pure, .op 15 .eff, .op 16 .pure, .op 17 .eff]))) .none))))) .none)))))))) .none))))) (.seq .none .none))))
theorem T56_ok : chkFn prog Tryz.f56 T56 = true := by kernel_rfl
def B56 (data_p0 a_p1 b_p2 cmp_p3 : Value) (w : World) (K : Value → World → Prop) : Prop :=
  pvv prog (binOp .add 3 a_p1 (.int .i64 1)) w fun t_0 w =>
  lp (fun σ w again_3 => pop σ fun i_1 σ => pop σ fun j_2 σ => fin σ <|
    pvv prog (binOp .lss 3 j_2 (.int .i64 5)) w fun t_4 w =>
    cd t_4 (
      jn (fun σ w => pop σ fun i_5 σ => fin σ <|
        pvv prog (binOp .add 3 j_2 (.int .i64 1)) w fun t_6 w =>
        again_3 [i_5, t_6] w) fun k_7 =>
      lp (fun σ w again_9 => pop σ fun i_8 σ => fin σ <|
        dr w fun w =>
        pvv prog (binOp .lss 3 i_8 b_p2) w fun t_10 w =>
        gate (some (t_10, true)) (fun K => K cmp_p3 w) w fun t_11 w =>
        gate (some (t_10, true)) (fun K => K data_p0 w) w fun t_12 w =>
        gate (some (t_10, true)) (fun K => K i_8 w) w fun t_13 w =>
        gate (some (t_10, true)) (fun K => pvv prog (Instr.indexAt 40 t_12 t_13) w K) w fun t_14 w =>
        gate (some (t_10, true)) (fun K => K data_p0 w) w fun t_15 w =>
        gate (some (t_10, true)) (fun K => K i_8 w) w fun t_16 w =>
        gate (some (t_10, true)) (fun K => pvv prog (binOp .sub 3 t_16 (.int .i64 1)) w K) w fun t_17 w =>
        gate (some (t_10, true)) (fun K => pvv prog (Instr.indexAt 40 t_15 t_17) w K) w fun t_18 w =>
        bindS (vN (Instr.loadAt 58 t_14)) fun m_20 => gate (some (t_10, true)) (fun K => ldv prog (Instr.loadAt 58 t_14) w K) w fun t_19 w =>
        bindS (vN (Instr.loadAt 58 t_18)) fun m_22 => gate (some (t_10, true)) (fun K => ldv prog (Instr.loadAt 58 t_18) w K) w fun t_21 w =>
        gate (some (t_10, true)) (fun K => ef prog (oCall t_11 #[t_19, t_21]) w fun s_110 w => K s_110 w) w fun t_23 w =>
        gate (some (t_10, true)) (fun K => pvv prog (binOp .lss 3 t_23 (.int .i64 0)) w K) w fun t_24 w =>
        gate (some (t_10, true)) (fun K => pvv prog (Op.unary .not t_24) w K) w fun t_25 w =>
        pv prog (oPick t_10 t_25 (.bool false)) w fun t_26 w =>
        cd t_26 (
          pvv prog (binOp .add 3 i_8 (.int .i64 1)) w fun t_27 w =>
          again_9 [t_27] w) <|
        pvv prog (oEq .eql 3 (.tmp 39) (.tmp 40) i_8 b_p2) w fun t_28 w =>
        cd t_28 (
          K (.bool true) w) <|
        pvv prog (binOp .sub 3 b_p2 a_p1) w fun t_29 w =>
        pvv prog (binOp .lss 3 t_29 (.int .i64 50)) w fun t_30 w =>
        cd t_30 (
          K (.bool false) w) <|
        dr w fun w =>
        pvv prog (binOp .sub 3 i_8 (.int .i64 1)) w fun t_31 w =>
        pvv prog (binOp .sub 3 i_8 (.int .i64 1)) w fun t_32 w =>
        pvv prog (Instr.indexAt 40 data_p0 t_32) w fun t_33 w =>
        pvv prog (Instr.indexAt 40 data_p0 i_8) w fun t_34 w =>
        bindS (vN (Instr.loadAt 58 t_33)) fun m_36 => ldv prog (Instr.loadAt 58 t_33) w fun t_35 w =>
        bindS (vN (Instr.loadAt 58 t_34)) fun m_38 => ldv prog (Instr.loadAt 58 t_34) w fun t_37 w =>
        pvv prog (Instr.indexAt 40 data_p0 i_8) w fun t_39 w =>
        efu prog (Instr.storeAt 58 t_39 t_35) w fun u_40 w =>
        pvv prog (Instr.indexAt 40 data_p0 t_31) w fun t_41 w =>
        efu prog (Instr.storeAt 58 t_41 t_37) w fun u_42 w =>
        jn (fun σ w => fin σ <|
          pvv prog (binOp .sub 3 b_p2 i_8) w fun t_43 w =>
          pvv prog (binOp .geq 3 t_43 (.int .i64 2)) w fun t_44 w =>
          cd t_44 (
            pvv prog (binOp .add 3 i_8 (.int .i64 1)) w fun t_45 w =>
            lp (fun σ w again_47 => pop σ fun j_46 σ => fin σ <|
              pvv prog (binOp .lss 3 j_46 b_p2) w fun t_48 w =>
              cd t_48 (
                dr w fun w =>
                pvv prog (Instr.indexAt 40 data_p0 j_46) w fun t_49 w =>
                pvv prog (binOp .sub 3 j_46 (.int .i64 1)) w fun t_50 w =>
                pvv prog (Instr.indexAt 40 data_p0 t_50) w fun t_51 w =>
                bindS (vN (Instr.loadAt 58 t_49)) fun m_53 => ldv prog (Instr.loadAt 58 t_49) w fun t_52 w =>
                bindS (vN (Instr.loadAt 58 t_51)) fun m_55 => ldv prog (Instr.loadAt 58 t_51) w fun t_54 w =>
                ef prog (oCall cmp_p3 #[t_52, t_54]) w fun t_56 w =>
                pvv prog (binOp .lss 3 t_56 (.int .i64 0)) w fun t_57 w =>
                pvv prog (Op.unary .not t_57) w fun t_58 w =>
                cd t_58 (
                  k_7 [i_8] w) <|
                dr w fun w =>
                pvv prog (binOp .sub 3 j_46 (.int .i64 1)) w fun t_59 w =>
                pvv prog (binOp .sub 3 j_46 (.int .i64 1)) w fun t_60 w =>
                pvv prog (Instr.indexAt 40 data_p0 t_60) w fun t_61 w =>
                pvv prog (Instr.indexAt 40 data_p0 j_46) w fun t_62 w =>
                bindS (vN (Instr.loadAt 58 t_61)) fun m_64 => ldv prog (Instr.loadAt 58 t_61) w fun t_63 w =>
                bindS (vN (Instr.loadAt 58 t_62)) fun m_66 => ldv prog (Instr.loadAt 58 t_62) w fun t_65 w =>
                pvv prog (Instr.indexAt 40 data_p0 j_46) w fun t_67 w =>
                efu prog (Instr.storeAt 58 t_67 t_63) w fun u_68 w =>
                pvv prog (Instr.indexAt 40 data_p0 t_59) w fun t_69 w =>
                efu prog (Instr.storeAt 58 t_69 t_65) w fun u_70 w =>
                pvv prog (binOp .add 3 j_46 (.int .i64 1)) w fun t_71 w =>
                again_47 [t_71] w) <|
              k_7 [i_8] w) [t_45] w) <|
          k_7 [i_8] w) fun k_75 =>
        pvv prog (binOp .sub 3 i_8 a_p1) w fun t_76 w =>
        pvv prog (binOp .geq 3 t_76 (.int .i64 2)) w fun t_77 w =>
        cd t_77 (
          pvv prog (binOp .sub 3 i_8 (.int .i64 1)) w fun t_78 w =>
          lp (fun σ w again_80 => pop σ fun j_79 σ => fin σ <|
            pvv prog (binOp .geq 3 j_79 (.int .i64 1)) w fun t_81 w =>
            cd t_81 (
              dr w fun w =>
              pvv prog (Instr.indexAt 40 data_p0 j_79) w fun t_82 w =>
              pvv prog (binOp .sub 3 j_79 (.int .i64 1)) w fun t_83 w =>
              pvv prog (Instr.indexAt 40 data_p0 t_83) w fun t_84 w =>
              bindS (vN (Instr.loadAt 58 t_82)) fun m_86 => ldv prog (Instr.loadAt 58 t_82) w fun t_85 w =>
              bindS (vN (Instr.loadAt 58 t_84)) fun m_88 => ldv prog (Instr.loadAt 58 t_84) w fun t_87 w =>
              ef prog (oCall cmp_p3 #[t_85, t_87]) w fun t_89 w =>
              pvv prog (binOp .lss 3 t_89 (.int .i64 0)) w fun t_90 w =>
              pvv prog (Op.unary .not t_90) w fun t_91 w =>
              cd t_91 (
                k_75 [] w) <|
              dr w fun w =>
              pvv prog (binOp .sub 3 j_79 (.int .i64 1)) w fun t_92 w =>
              pvv prog (binOp .sub 3 j_79 (.int .i64 1)) w fun t_93 w =>
              pvv prog (Instr.indexAt 40 data_p0 t_93) w fun t_94 w =>
              pvv prog (Instr.indexAt 40 data_p0 j_79) w fun t_95 w =>
              bindS (vN (Instr.loadAt 58 t_94)) fun m_97 => ldv prog (Instr.loadAt 58 t_94) w fun t_96 w =>
              bindS (vN (Instr.loadAt 58 t_95)) fun m_99 => ldv prog (Instr.loadAt 58 t_95) w fun t_98 w =>
              pvv prog (Instr.indexAt 40 data_p0 j_79) w fun t_100 w =>
              efu prog (Instr.storeAt 58 t_100 t_96) w fun u_101 w =>
              pvv prog (Instr.indexAt 40 data_p0 t_92) w fun t_102 w =>
              efu prog (Instr.storeAt 58 t_102 t_98) w fun u_103 w =>
              pvv prog (binOp .sub 3 j_79 (.int .i64 1)) w fun t_104 w =>
              again_80 [t_104] w) <|
            k_75 [] w) [t_78] w) <|
        k_75 [] w) [i_1] w) <|
    K (.bool false) w) [t_0, (.int .i64 0)] w
theorem B56_eq (data_p0 a_p1 b_p2 cmp_p3 : Value) (w : World) (K : Value → World → Prop) : denFn prog Tryz.f56 T56 [data_p0, a_p1, b_p2, cmp_p3] w K = B56 data_p0 a_p1 b_p2 cmp_p3 w K := by kernel_rfl
theorem c56 {data_p0 a_p1 b_p2 cmp_p3 : Value} {w : World} {K : Value → World → Prop} (h : B56 data_p0 a_p1 b_p2 cmp_p3 w K) : Calls prog 56 #[data_p0, a_p1, b_p2, cmp_p3] w (Ret K) :=
  denFn_calls Tryz.func56 T56_ok (Eq.mpr (B56_eq data_p0 a_p1 b_p2 cmp_p3 w K) h)

-- 82 slices.partialInsertionSortOrdered[int]
def T82 : Ann := (.seq .none (.seq .none (.seq (.seq .none (.block (.loop 10889035741470030830827987437816582760384 [7, 8] (.seq (.seq .none (.seq .none .none)) (.meet 10889035741470030830827987437816582637248 [7] (.block (.seq (.block (.loop 34359607424 [7] (.seq (.seq (.draw [.op 0 .pure, .op 1 .pure, .op 2 .pure, .op 3 .pure, .op 4 .pure, .op 5 .pure, .op 6 .pure, .op 8 .pure, .op 9 .pure, .op 10 .pure, .op 11 .pure, .op 7 .load, .op 12 .load, .op 13 .eff, .op 14 .pure, .op 15 .pure]) (.seq .none .none)) (.block .none)))) (.seq (.seq .none (.seq (.seq .none .none) .none)) (.seq (.seq .none (.seq (.seq .none .none) .none)) (.seq (.draw [.op 0 .pure, .op 1 .pure, .op 2 .pure, .op 3 .pure, .op 4 .pure, .op 5 .pure, .op 6 .pure, .op 7 .pure, .op 8 .pure, .op 10 .pure, .op 11 .pure, .op 12 .pure, .op 9 .load, .op 13 .load, .op 14 .pure, .op 15 .eff, .op 16 .pure, .op 17 .eff]) (.meet 39614081256843938420620263936 [] (.seq .none (.seq (.seq .none (.block (.loop 39614081238685424723062424064 [9] (.seq (.seq .none (.seq .none .none)) (.seq (.block (.seq (.seq (.draw [.op 0 .pure, .op 1 .pure, .op 2 .pure, .op 4 .pure, .op 5 .pure, .op 6 .pure, .op 7 .pure, .op 3 .load, .op 8 .load, .op 9 .eff, .op 10 .pure]) (.seq .none .none)) (.draw [.op 0 .pure, .op 1 .pure, .op 2 .pure, .op 3 .pure, .op 4 .pure, .op 5 .pure, .op 6 .pure, .op 7 .pure, .op 8 .pure, .op 10 .pure, .op 11 .pure, .op 12 .pure, .op 9 .load, .op 13 .load, .op 14 .pure, .op 15 .eff, .op 16 .pure, .op 17 .eff]))) .none))))) .none)) (.seq .none (.seq (.seq .none (.block (.loop 10889035738934729630371528634823176356864 [10] (.seq (.seq .none (.seq .none .none)) (.seq (.block (.seq (.seq (.draw [.op 0 .pure, .op 1 .pure, .op 2 .pure, .op 4 .pure, .op 5 .pure, .op 6 .pure, .op 7 .pure, .op 3 .load, .op 8 .load, .op 9 .eff, .op 10 .pure]) (.seq .none .none)) (.draw [.op 0 .pure, .op 1 .pure, .op 2 .pure, .op 3 .pure, .op 4 .pure, .op 5 .pure, .op 6 .pure, .op 7 .pure, .op 8 .pure, .op 10 .pure, .op 11 .pure, .op 12 .pure, .op 9 .load, .op 13 .load, .op 14 .pure, .op 15 .eff, .op 16 .pure, .op 17 .eff]))) .none))))) .none)))))))) .none))))) (.seq .none .none))))
theorem T82_ok : chkFn prog Tryz.f82 T82 = true := by kernel_rfl
def B82 (data_p0 a_p1 b_p2 : Value) (w : World) (K : Value → World → Prop) : Prop :=
  pvv prog (binOp .add 3 a_p1 (.int .i64 1)) w fun t_0 w =>
  lp (fun σ w again_3 => pop σ fun i_1 σ => pop σ fun j_2 σ => fin σ <|
    pvv prog (binOp .lss 3 j_2 (.int .i64 5)) w fun t_4 w =>
    cd t_4 (
      jn (fun σ w => pop σ fun i_5 σ => fin σ <|
        pvv prog (binOp .add 3 j_2 (.int .i64 1)) w fun t_6 w =>
        again_3 [i_5, t_6] w) fun k_7 =>
      lp (fun σ w again_9 => pop σ fun i_8 σ => fin σ <|
        dr w fun w =>
        pvv prog (binOp .lss 3 i_8 b_p2) w fun t_10 w =>
        gate (some (t_10, true)) (fun K => K data_p0 w) w fun t_11 w =>
        gate (some (t_10, true)) (fun K => K i_8 w) w fun t_12 w =>
        gate (some (t_10, true)) (fun K => pvv prog (Instr.indexAt 31 t_11 t_12) w K) w fun t_13 w =>
        gate (some (t_10, true)) (fun K => K data_p0 w) w fun t_14 w =>
        gate (some (t_10, true)) (fun K => K i_8 w) w fun t_15 w =>
        gate (some (t_10, true)) (fun K => pvv prog (binOp .sub 3 t_15 (.int .i64 1)) w K) w fun t_16 w =>
        gate (some (t_10, true)) (fun K => pvv prog (Instr.indexAt 31 t_14 t_16) w K) w fun t_17 w =>
        bindS (vN (Instr.loadAt 3 t_13)) fun m_19 => gate (some (t_10, true)) (fun K => ldv prog (Instr.loadAt 3 t_13) w K) w fun t_18 w =>
        bindS (vN (Instr.loadAt 3 t_17)) fun m_21 => gate (some (t_10, true)) (fun K => ldv prog (Instr.loadAt 3 t_17) w K) w fun t_20 w =>
        gate (some (t_10, true)) (fun K => Calls prog 83 #[t_18, t_20] w (Ret fun s_106 w => K s_106 w)) w fun t_22 w =>
        gate (some (t_10, true)) (fun K => pvv prog (Op.unary .not t_22) w K) w fun t_23 w =>
        pv prog (oPick t_10 t_23 (.bool false)) w fun t_24 w =>
        cd t_24 (
          pvv prog (binOp .add 3 i_8 (.int .i64 1)) w fun t_25 w =>
          again_9 [t_25] w) <|
        pvv prog (oEq .eql 3 (.tmp 35) (.tmp 36) i_8 b_p2) w fun t_26 w =>
        cd t_26 (
          K (.bool true) w) <|
        pvv prog (binOp .sub 3 b_p2 a_p1) w fun t_27 w =>
        pvv prog (binOp .lss 3 t_27 (.int .i64 50)) w fun t_28 w =>
        cd t_28 (
          K (.bool false) w) <|
        dr w fun w =>
        pvv prog (binOp .sub 3 i_8 (.int .i64 1)) w fun t_29 w =>
        pvv prog (binOp .sub 3 i_8 (.int .i64 1)) w fun t_30 w =>
        pvv prog (Instr.indexAt 31 data_p0 t_30) w fun t_31 w =>
        pvv prog (Instr.indexAt 31 data_p0 i_8) w fun t_32 w =>
        bindS (vN (Instr.loadAt 3 t_31)) fun m_34 => ldv prog (Instr.loadAt 3 t_31) w fun t_33 w =>
        bindS (vN (Instr.loadAt 3 t_32)) fun m_36 => ldv prog (Instr.loadAt 3 t_32) w fun t_35 w =>
        pvv prog (Instr.indexAt 31 data_p0 i_8) w fun t_37 w =>
        efu prog (Instr.storeAt 3 t_37 t_33) w fun u_38 w =>
        pvv prog (Instr.indexAt 31 data_p0 t_29) w fun t_39 w =>
        efu prog (Instr.storeAt 3 t_39 t_35) w fun u_40 w =>
        jn (fun σ w => fin σ <|
          pvv prog (binOp .sub 3 b_p2 i_8) w fun t_41 w =>
          pvv prog (binOp .geq 3 t_41 (.int .i64 2)) w fun t_42 w =>
          cd t_42 (
            pvv prog (binOp .add 3 i_8 (.int .i64 1)) w fun t_43 w =>
            lp (fun σ w again_45 => pop σ fun j_44 σ => fin σ <|
              pvv prog (binOp .lss 3 j_44 b_p2) w fun t_46 w =>
              cd t_46 (
                dr w fun w =>
                pvv prog (Instr.indexAt 31 data_p0 j_44) w fun t_47 w =>
                pvv prog (binOp .sub 3 j_44 (.int .i64 1)) w fun t_48 w =>
                pvv prog (Instr.indexAt 31 data_p0 t_48) w fun t_49 w =>
                bindS (vN (Instr.loadAt 3 t_47)) fun m_51 => ldv prog (Instr.loadAt 3 t_47) w fun t_50 w =>
                bindS (vN (Instr.loadAt 3 t_49)) fun m_53 => ldv prog (Instr.loadAt 3 t_49) w fun t_52 w =>
                Calls prog 83 #[t_50, t_52] w (Ret fun t_54 w =>
                pvv prog (Op.unary .not t_54) w fun t_55 w =>
                cd t_55 (
                  k_7 [i_8] w) <|
                dr w fun w =>
                pvv prog (binOp .sub 3 j_44 (.int .i64 1)) w fun t_56 w =>
                pvv prog (binOp .sub 3 j_44 (.int .i64 1)) w fun t_57 w =>
                pvv prog (Instr.indexAt 31 data_p0 t_57) w fun t_58 w =>
                pvv prog (Instr.indexAt 31 data_p0 j_44) w fun t_59 w =>
                bindS (vN (Instr.loadAt 3 t_58)) fun m_61 => ldv prog (Instr.loadAt 3 t_58) w fun t_60 w =>
                bindS (vN (Instr.loadAt 3 t_59)) fun m_63 => ldv prog (Instr.loadAt 3 t_59) w fun t_62 w =>
                pvv prog (Instr.indexAt 31 data_p0 j_44) w fun t_64 w =>
                efu prog (Instr.storeAt 3 t_64 t_60) w fun u_65 w =>
                pvv prog (Instr.indexAt 31 data_p0 t_56) w fun t_66 w =>
                efu prog (Instr.storeAt 3 t_66 t_62) w fun u_67 w =>
                pvv prog (binOp .add 3 j_44 (.int .i64 1)) w fun t_68 w =>
                again_45 [t_68] w)) <|
              k_7 [i_8] w) [t_43] w) <|
          k_7 [i_8] w) fun k_72 =>
        pvv prog (binOp .sub 3 i_8 a_p1) w fun t_73 w =>
        pvv prog (binOp .geq 3 t_73 (.int .i64 2)) w fun t_74 w =>
        cd t_74 (
          pvv prog (binOp .sub 3 i_8 (.int .i64 1)) w fun t_75 w =>
          lp (fun σ w again_77 => pop σ fun j_76 σ => fin σ <|
            pvv prog (binOp .geq 3 j_76 (.int .i64 1)) w fun t_78 w =>
            cd t_78 (
              dr w fun w =>
              pvv prog (Instr.indexAt 31 data_p0 j_76) w fun t_79 w =>
              pvv prog (binOp .sub 3 j_76 (.int .i64 1)) w fun t_80 w =>
              pvv prog (Instr.indexAt 31 data_p0 t_80) w fun t_81 w =>
              bindS (vN (Instr.loadAt 3 t_79)) fun m_83 => ldv prog (Instr.loadAt 3 t_79) w fun t_82 w =>
              bindS (vN (Instr.loadAt 3 t_81)) fun m_85 => ldv prog (Instr.loadAt 3 t_81) w fun t_84 w =>
              Calls prog 83 #[t_82, t_84] w (Ret fun t_86 w =>
              pvv prog (Op.unary .not t_86) w fun t_87 w =>
              cd t_87 (
                k_72 [] w) <|
              dr w fun w =>
              pvv prog (binOp .sub 3 j_76 (.int .i64 1)) w fun t_88 w =>
              pvv prog (binOp .sub 3 j_76 (.int .i64 1)) w fun t_89 w =>
              pvv prog (Instr.indexAt 31 data_p0 t_89) w fun t_90 w =>
              pvv prog (Instr.indexAt 31 data_p0 j_76) w fun t_91 w =>
              bindS (vN (Instr.loadAt 3 t_90)) fun m_93 => ldv prog (Instr.loadAt 3 t_90) w fun t_92 w =>
              bindS (vN (Instr.loadAt 3 t_91)) fun m_95 => ldv prog (Instr.loadAt 3 t_91) w fun t_94 w =>
              pvv prog (Instr.indexAt 31 data_p0 j_76) w fun t_96 w =>
              efu prog (Instr.storeAt 3 t_96 t_92) w fun u_97 w =>
              pvv prog (Instr.indexAt 31 data_p0 t_88) w fun t_98 w =>
              efu prog (Instr.storeAt 3 t_98 t_94) w fun u_99 w =>
              pvv prog (binOp .sub 3 j_76 (.int .i64 1)) w fun t_100 w =>
              again_77 [t_100] w)) <|
            k_72 [] w) [t_75] w) <|
        k_72 [] w) [i_1] w) <|
    K (.bool false) w) [t_0, (.int .i64 0)] w
theorem B82_eq (data_p0 a_p1 b_p2 : Value) (w : World) (K : Value → World → Prop) : denFn prog Tryz.f82 T82 [data_p0, a_p1, b_p2] w K = B82 data_p0 a_p1 b_p2 w K := by kernel_rfl
theorem c82 {data_p0 a_p1 b_p2 : Value} {w : World} {K : Value → World → Prop} (h : B82 data_p0 a_p1 b_p2 w K) : Calls prog 82 #[data_p0, a_p1, b_p2] w (Ret K) :=
  denFn_calls Tryz.func82 T82_ok (Eq.mpr (B82_eq data_p0 a_p1 b_p2 w K) h)

-- 66 slices.pdqsortOrdered[int]
def T66 : Ann := (.seq .none (.seq .none (.block (.loop 21778071482940061661655974875633165532942 [1, 2, 3, 8, 9] (.block (.seq .none (.seq (.seq .none (.seq (.seq .none .none) .none)) (.seq (.seq .none (.seq (.seq .none .none) .none)) (.meet 4380866641928 [3] (.seq .none (.seq (.seq .none .none) .none)) (.seq .none (.meet 2305280059260278784 [11, 12] (.seq .none (.seq (.seq .none (.seq .none .none)) .none)) (.meet 9442427122730076733440 [] (.seq .none (.seq (.seq .none (.seq .none .none)) .none)) (.seq (.seq (.draw [.op 0 .pure, .op 1 .pure, .op 2 .pure, .op 3 .pure, .op 4 .pure, .op 5 .pure, .op 6 .pure, .op 8 .pure, .op 9 .pure, .op 10 .pure, .op 7 .load, .op 11 .load, .op 12 .eff, .op 13 .pure, .op 14 .pure]) (.seq (.seq .none (.seq .none .none)) .none)) (.seq .none (.seq .none (.seq .none (.seq .none (.seq .none (.seq (.seq .none (.seq .none .none)) (.seq .none (.seq .none .none)))))))))))))))))))))
theorem T66_ok : chkFn prog Tryz.f66 T66 = true := by kernel_rfl
def B66 (data_p0 a_p1 b_p2 limit_p3 : Value) (w : World) (K : Value → World → Prop) : Prop :=
  lp (fun σ w again_5 => pop σ fun a_0 σ => pop σ fun b_1 σ => pop σ fun limit_2 σ => pop σ fun wasBalanced_3 σ => pop σ fun wasPartitioned_4 σ => fin σ <|
    pvv prog (binOp .sub 3 b_1 a_0) w fun t_6 w =>
    pvv prog (binOp .leq 3 t_6 (.int .i64 12)) w fun t_7 w =>
    cd t_7 (
      Calls prog 77 #[data_p0, a_0, b_1] w (Ret fun t_8 w =>
      K (.tuple #[]) w)) <|
    pvv prog (oEq .eql 3 (.tmp 28) (.const (.int .i64 0)) limit_2 (.int .i64 0)) w fun t_9 w =>
    cd t_9 (
      Calls prog 78 #[data_p0, a_0, b_1] w (Ret fun t_10 w =>
      K (.tuple #[]) w)) <|
    jn (fun σ w => pop σ fun limit_11 σ => fin σ <|
      Calls prog 80 #[data_p0, a_0, b_1] w (Ret fun t_12 w =>
      pvv prog (Instr.extract t_12 0) w fun t_13 w =>
      pvv prog (Instr.extract t_12 1) w fun t_14 w =>
      jn (fun σ w => pop σ fun pivot_15 σ => pop σ fun hint_16 σ => fin σ <|
        jn (fun σ w => fin σ <|
          dr w fun w =>
          pvv prog (binOp .gtr 3 a_0 (.int .i64 0)) w fun t_17 w =>
          gate (some (t_17, true)) (fun K => K data_p0 w) w fun t_18 w =>
          gate (some (t_17, true)) (fun K => K a_0 w) w fun t_19 w =>
          gate (some (t_17, true)) (fun K => pvv prog (binOp .sub 3 t_19 (.int .i64 1)) w K) w fun t_20 w =>
          gate (some (t_17, true)) (fun K => pvv prog (Instr.indexAt 31 t_18 t_20) w K) w fun t_21 w =>
          gate (some (t_17, true)) (fun K => K data_p0 w) w fun t_22 w =>
          gate (some (t_17, true)) (fun K => K pivot_15 w) w fun t_23 w =>
          gate (some (t_17, true)) (fun K => pvv prog (Instr.indexAt 31 t_22 t_23) w K) w fun t_24 w =>
          bindS (vN (Instr.loadAt 3 t_21)) fun m_26 => gate (some (t_17, true)) (fun K => ldv prog (Instr.loadAt 3 t_21) w K) w fun t_25 w =>
          bindS (vN (Instr.loadAt 3 t_24)) fun m_28 => gate (some (t_17, true)) (fun K => ldv prog (Instr.loadAt 3 t_24) w K) w fun t_27 w =>
          gate (some (t_17, true)) (fun K => Calls prog 83 #[t_25, t_27] w (Ret fun s_46 w => K s_46 w)) w fun t_29 w =>
          gate (some (t_17, true)) (fun K => pvv prog (Op.unary .not t_29) w K) w fun t_30 w =>
          pv prog (oPick t_17 t_30 (.bool false)) w fun t_31 w =>
          cd t_31 (
            Calls prog 84 #[data_p0, a_0, b_1, pivot_15] w (Ret fun t_32 w =>
            again_5 [t_32, b_1, limit_11, wasBalanced_3, wasPartitioned_4] w)) <|
          Calls prog 85 #[data_p0, a_0, b_1, pivot_15] w (Ret fun t_33 w =>
          pvv prog (Instr.extract t_33 0) w fun t_34 w =>
          pvv prog (Instr.extract t_33 1) w fun t_35 w =>
          pvv prog (binOp .sub 3 t_34 a_0) w fun t_36 w =>
          pvv prog (binOp .sub 3 b_1 t_34) w fun t_37 w =>
          pvv prog (binOp .quo 3 t_6 (.int .i64 8)) w fun t_38 w =>
          pvv prog (binOp .lss 3 t_36 t_37) w fun t_39 w =>
          cd t_39 (
            pvv prog (binOp .geq 3 t_36 t_38) w fun t_40 w =>
            Calls prog 66 #[data_p0, a_0, t_34, limit_11] w (Ret fun t_41 w =>
            pvv prog (binOp .add 3 t_34 (.int .i64 1)) w fun t_42 w =>
            again_5 [t_42, b_1, limit_11, t_40, t_35] w)) <|
          pvv prog (binOp .geq 3 t_37 t_38) w fun t_43 w =>
          pvv prog (binOp .add 3 t_34 (.int .i64 1)) w fun t_44 w =>
          Calls prog 66 #[data_p0, t_44, b_1, limit_11] w (Ret fun t_45 w =>
          again_5 [a_0, t_34, limit_11, t_43, t_35] w))) fun k_47 =>
        gate (some (wasBalanced_3, true)) (fun K => K wasPartitioned_4 w) w fun t_48 w =>
        pv prog (oPick wasBalanced_3 t_48 (.bool false)) w fun t_49 w =>
        gate (some (t_49, true)) (fun K => K hint_16 w) w fun t_50 w =>
        gate (some (t_49, true)) (fun K => pvv prog (oEq .eql 87 (.tmp 66) (.const (.int .i64 1)) t_50 (.int .i64 1)) w K) w fun t_51 w =>
        pv prog (oPick t_49 t_51 (.bool false)) w fun t_52 w =>
        cd t_52 (
          Calls prog 82 #[data_p0, a_0, b_1] w (Ret fun t_53 w =>
          cd t_53 (
            K (.tuple #[]) w) <|
          k_47 [] w)) <|
        k_47 [] w) fun k_54 =>
      pvv prog (oEq .eql 87 (.tmp 49) (.const (.int .i64 2)) t_14 (.int .i64 2)) w fun t_55 w =>
      cd t_55 (
        Calls prog 81 #[data_p0, a_0, b_1] w (Ret fun t_56 w =>
        pvv prog (binOp .sub 3 b_1 (.int .i64 1)) w fun t_57 w =>
        pvv prog (binOp .sub 3 t_13 a_0) w fun t_58 w =>
        pvv prog (binOp .sub 3 t_57 t_58) w fun t_59 w =>
        k_54 [t_59, (.int .i64 1)] w)) <|
      k_54 [t_13, t_14] w)) fun k_60 =>
    pvv prog (Op.unary .not wasBalanced_3) w fun t_61 w =>
    cd t_61 (
      Calls prog 79 #[data_p0, a_0, b_1] w (Ret fun t_62 w =>
      pvv prog (binOp .sub 3 limit_2 (.int .i64 1)) w fun t_63 w =>
      k_60 [t_63] w)) <|
    k_60 [limit_2] w) [a_p1, b_p2, limit_p3, (.bool true), (.bool true)] w
theorem B66_eq (data_p0 a_p1 b_p2 limit_p3 : Value) (w : World) (K : Value → World → Prop) : denFn prog Tryz.f66 T66 [data_p0, a_p1, b_p2, limit_p3] w K = B66 data_p0 a_p1 b_p2 limit_p3 w K := by kernel_rfl
theorem c66 {data_p0 a_p1 b_p2 limit_p3 : Value} {w : World} {K : Value → World → Prop} (h : B66 data_p0 a_p1 b_p2 limit_p3 w K) : Calls prog 66 #[data_p0, a_p1, b_p2, limit_p3] w (Ret K) :=
  denFn_calls Tryz.func66 T66_ok (Eq.mpr (B66_eq data_p0 a_p1 b_p2 limit_p3 w K) h)

-- 4 (*holdfast/session.Table).Begin
def T4 : Ann := (.seq .none (.seq (.block (.seq .none (.seq (.seq .none .none) (.seq .none (.seq (.seq .none .none) .none))))) (.seq .none (.seq (.block (.seq .none (.seq (.seq .none .none) (.seq .none (.seq (.seq .none .none) (.seq .none (.seq (.seq .none .none) .none))))))) (.seq (.draw [.op 0 .pure, .op 1 .pure, .op 2 .pure, .op 5 .pure, .op 6 .pure, .op 3 .load, .op 4 .load, .op 7 .pure, .op 8 .eff, .op 9 .eff]) (.seq (.draw [.op 0 .pure, .op 1 .pure, .op 2 .pure, .op 4 .pure, .op 3 .load, .op 5 .load, .op 6 .load, .op 7 .eff]) (.seq .none (.seq .none (.seq .none .none)))))))))
theorem T4_ok : chkFn prog Tryz.f4 T4 = true := by kernel_rfl
def B4 (t_p0 o_p1 now_p2 : Value) (w : World) (K : Value → World → Prop) : Prop :=
  efv prog (Instr.box 23 o_p1) w fun o_0 w =>
  efv prog (Instr.alloc 26 true (.tuple #[])) w fun t_1 w =>
  pvv prog (oEq .eql 24 (.tmp 12) (.const (.pointer none)) t_p0 (.pointer none)) w fun t_2 w =>
  cd t_2 (
    pvv prog (Instr.build 26 #[]) w fun t_3 w =>
    efu prog (Instr.storeAt 26 t_1 t_3) w fun u_4 w =>
    ∃ r_5, (do loadVar 26 (← asAddr t_1)).run prog w = .ok r_5 w ∧ K (.tuple #[r_5, (.int .i64 1)]) w) <|
  pvv prog (Instr.fieldAt 23 o_0 0) w fun t_6 w =>
  ldv prog (Instr.loadAt 9 t_6) w fun t_7 w =>
  Calls prog 14 #[t_7] w (Ret fun t_8 w =>
  pvv prog (Op.unary .not t_8) w fun t_9 w =>
  gate (some (t_9, false)) (fun K => pvv prog (Instr.fieldAt 23 o_0 1) w K) w fun t_10 w =>
  gate (some (t_9, false)) (fun K => ldv prog (Instr.loadAt 9 t_10) w K) w fun t_11 w =>
  gate (some (t_9, false)) (fun K => Calls prog 14 #[t_11] w (Ret K)) w fun t_12 w =>
  gate (some (t_9, false)) (fun K => pvv prog (Op.unary .not t_12) w K) w fun t_13 w =>
  pv prog (oPick t_9 (.bool true) t_13) w fun t_14 w =>
  cd t_14 (
    pvv prog (Instr.build 26 #[]) w fun t_15 w =>
    efu prog (Instr.storeAt 26 t_1 t_15) w fun u_16 w =>
    ∃ r_17, (do loadVar 26 (← asAddr t_1)).run prog w = .ok r_17 w ∧ K (.tuple #[r_17, (.int .i64 8)]) w) <|
  ldv prog (Instr.loadAt 23 o_0) w fun t_18 w =>
  Calls prog 8 #[t_p0, t_18, now_p2] w (Ret fun t_19 w =>
  pvv prog (Instr.extract t_19 0) w fun t_20 w =>
  pvv prog (Instr.extract t_19 1) w fun t_21 w =>
  pvv prog (oEq .neq 27 (.tmp 35) (.const (.int .i64 0)) t_21 (.int .i64 0)) w fun t_22 w =>
  cd t_22 (
    pvv prog (Instr.build 26 #[]) w fun t_23 w =>
    efu prog (Instr.storeAt 26 t_1 t_23) w fun u_24 w =>
    ∃ r_25, (do loadVar 26 (← asAddr t_1)).run prog w = .ok r_25 w ∧ K (.tuple #[r_25, t_21]) w) <|
  pv prog (oNil t_p0) w fun t_26 w =>
  pvv prog (Instr.fieldAt 49 t_26 1) w fun t_27 w =>
  ldv prog (Instr.loadAt 3 t_27) w fun t_28 w =>
  pvv prog (binOp .gtr 3 t_28 (.int .i64 1099511627776)) w fun t_29 w =>
  cd t_29 (
    pvv prog (Instr.build 26 #[]) w fun t_30 w =>
    efu prog (Instr.storeAt 26 t_1 t_30) w fun u_31 w =>
    ∃ r_32, (do loadVar 26 (← asAddr t_1)).run prog w = .ok r_32 w ∧ K (.tuple #[r_32, (.int .i64 7)]) w) <|
  pv prog (oBi .len #[34] 3 #[false] #[t_20]) w fun t_33 w =>
  pvv prog (binOp .geq 3 t_33 (.int .i64 3)) w fun t_34 w =>
  cd t_34 (
    pvv prog (Instr.build 26 #[]) w fun t_35 w =>
    efu prog (Instr.storeAt 26 t_1 t_35) w fun u_36 w =>
    ∃ r_37, (do loadVar 26 (← asAddr t_1)).run prog w = .ok r_37 w ∧ K (.tuple #[r_37, (.int .i64 22)]) w) <|
  dr w fun w =>
  pv prog (oNil t_p0) w fun t_38 w =>
  pvv prog (Instr.fieldAt 49 t_38 1) w fun t_39 w =>
  bindS (vN (Instr.loadAt 3 t_39)) fun m_41 => ldv prog (Instr.loadAt 3 t_39) w fun t_40 w =>
  bindS (vN (Instr.loadAt 23 o_0)) fun m_43 => ldv prog (Instr.loadAt 23 o_0) w fun t_42 w =>
  pvv prog (Instr.build 26 #[(0, t_40), (1, t_42), (2, now_p2), (3, now_p2)]) w fun t_44 w =>
  efv prog (Instr.alloc 26 true (.tuple #[])) w fun s_45 w => stay prog none m_43 t_42 w <| stay prog none m_41 t_40 w <| 
  efu prog (Instr.storeAt 26 s_45 t_44) w fun u_46 w =>
  dr w fun w =>
  pv prog (oNil t_p0) w fun t_47 w =>
  pvv prog (Instr.fieldAt 49 t_47 2) w fun t_48 w =>
  pvv prog (Instr.fieldAt 26 s_45 0) w fun t_49 w =>
  bindS (vN (Instr.loadAt 47 t_48)) fun m_51 => ldv prog (Instr.loadAt 47 t_48) w fun t_50 w =>
  bindS (vN (Instr.loadAt 3 t_49)) fun m_53 => ldv prog (Instr.loadAt 3 t_49) w fun t_52 w =>
  bindS (vN (Instr.loadAt 26 s_45)) fun m_55 => ldv prog (Instr.loadAt 26 s_45) w fun t_54 w =>
  efu prog (Instr.mapUpdate 47 t_50 t_52 t_54) w fun u_56 w =>
  pv prog (oNil t_p0) w fun t_57 w =>
  pvv prog (Instr.fieldAt 49 t_57 1) w fun t_58 w =>
  ldv prog (Instr.loadAt 3 t_58) w fun t_59 w =>
  pvv prog (binOp .add 3 t_59 (.int .i64 1)) w fun t_60 w =>
  pv prog (oNil t_p0) w fun t_61 w =>
  pvv prog (Instr.fieldAt 49 t_61 1) w fun t_62 w =>
  efu prog (Instr.storeAt 3 t_62 t_60) w fun u_63 w =>
  pv prog (oNil t_p0) w fun t_64 w =>
  pvv prog (Instr.fieldAt 49 t_64 0) w fun t_65 w =>
  pvv prog (Instr.fieldAt 46 t_65 0) w fun t_66 w =>
  efu prog (Instr.storeAt 3 t_66 now_p2) w fun u_67 w =>
  ldv prog (Instr.loadAt 26 s_45) w fun t_68 w =>
  efu prog (Instr.storeAt 26 t_1 t_68) w fun u_69 w =>
  ∃ r_70, (do loadVar 26 (← asAddr t_1)).run prog w = .ok r_70 w ∧ K (.tuple #[r_70, (.int .i64 0)]) w))
theorem B4_eq (t_p0 o_p1 now_p2 : Value) (w : World) (K : Value → World → Prop) : denFn prog Tryz.f4 T4 [t_p0, o_p1, now_p2] w K = B4 t_p0 o_p1 now_p2 w K := by kernel_rfl
theorem c4 {t_p0 o_p1 now_p2 : Value} {w : World} {K : Value → World → Prop} (h : B4 t_p0 o_p1 now_p2 w K) : Calls prog 4 #[t_p0, o_p1, now_p2] w (Ret K) :=
  denFn_calls Tryz.func4 T4_ok (Eq.mpr (B4_eq t_p0 o_p1 now_p2 w K) h)

-- 96 slices.siftDownOrdered[int]
def T96 : Ann := (.seq .none (.block (.loop 75557863725914323417856 [8] (.block (.seq .none (.seq (.seq .none (.seq .none .none)) (.meet 549755683328 [9] (.seq (.draw [.op 0 .pure, .op 1 .pure, .op 2 .pure, .op 3 .pure, .op 4 .pure, .op 5 .pure, .op 6 .pure, .op 7 .pure, .op 8 .pure, .op 9 .pure, .op 11 .pure, .op 12 .pure, .op 13 .pure, .op 14 .pure, .op 15 .pure, .op 16 .pure, .op 10 .load, .op 17 .load, .op 18 .eff, .op 19 .pure]) (.seq .none .none)) (.seq (.seq (.draw [.op 0 .pure, .op 1 .pure, .op 2 .pure, .op 3 .pure, .op 4 .pure, .op 6 .pure, .op 7 .pure, .op 8 .pure, .op 9 .pure, .op 10 .pure, .op 5 .load, .op 11 .load, .op 12 .eff, .op 13 .pure]) (.seq .none .none)) (.seq (.draw [.op 0 .pure, .op 1 .pure, .op 2 .pure, .op 3 .pure, .op 4 .pure, .op 5 .pure, .op 6 .pure, .op 7 .pure, .op 8 .pure, .op 9 .pure, .op 10 .pure, .op 11 .pure, .op 12 .pure, .op 14 .pure, .op 15 .pure, .op 16 .pure, .op 17 .pure, .op 18 .pure, .op 13 .load, .op 19 .load, .op 20 .pure, .op 21 .eff, .op 22 .pure, .op 23 .eff]) .none)))))))))
theorem T96_ok : chkFn prog Tryz.f96 T96 = true := by kernel_rfl
def B96 (data_p0 lo_p1 hi_p2 first_p3 : Value) (w : World) (K : Value → World → Prop) : Prop :=
  lp (fun σ w again_1 => pop σ fun root_0 σ => fin σ <|
    pvv prog (binOp .mul 3 (.int .i64 2) root_0) w fun t_2 w =>
    pvv prog (binOp .add 3 t_2 (.int .i64 1)) w fun t_3 w =>
    pvv prog (binOp .geq 3 t_3 hi_p2) w fun t_4 w =>
    cd t_4 (
      K (.tuple #[]) w) <|
    jn (fun σ w => pop σ fun child_5 σ => fin σ <|
      dr w fun w =>
      pvv prog (binOp .add 3 first_p3 root_0) w fun t_6 w =>
      pvv prog (Instr.indexAt 31 data_p0 t_6) w fun t_7 w =>
      pvv prog (binOp .add 3 first_p3 child_5) w fun t_8 w =>
      pvv prog (Instr.indexAt 31 data_p0 t_8) w fun t_9 w =>
      bindS (vN (Instr.loadAt 3 t_7)) fun m_11 => ldv prog (Instr.loadAt 3 t_7) w fun t_10 w =>
      bindS (vN (Instr.loadAt 3 t_9)) fun m_13 => ldv prog (Instr.loadAt 3 t_9) w fun t_12 w =>
      Calls prog 83 #[t_10, t_12] w (Ret fun t_14 w =>
      pvv prog (Op.unary .not t_14) w fun t_15 w =>
      cd t_15 (
        K (.tuple #[]) w) <|
      dr w fun w =>
      pvv prog (binOp .add 3 first_p3 root_0) w fun t_16 w =>
      pvv prog (binOp .add 3 first_p3 child_5) w fun t_17 w =>
      pvv prog (binOp .add 3 first_p3 child_5) w fun t_18 w =>
      pvv prog (Instr.indexAt 31 data_p0 t_18) w fun t_19 w =>
      pvv prog (binOp .add 3 first_p3 root_0) w fun t_20 w =>
      pvv prog (Instr.indexAt 31 data_p0 t_20) w fun t_21 w =>
      bindS (vN (Instr.loadAt 3 t_19)) fun m_23 => ldv prog (Instr.loadAt 3 t_19) w fun t_22 w =>
      bindS (vN (Instr.loadAt 3 t_21)) fun m_25 => ldv prog (Instr.loadAt 3 t_21) w fun t_24 w =>
      pvv prog (Instr.indexAt 31 data_p0 t_16) w fun t_26 w =>
      efu prog (Instr.storeAt 3 t_26 t_22) w fun u_27 w =>
      pvv prog (Instr.indexAt 31 data_p0 t_17) w fun t_28 w =>
      efu prog (Instr.storeAt 3 t_28 t_24) w fun u_29 w =>
      again_1 [child_5] w)) fun k_33 =>
    dr w fun w =>
    pvv prog (binOp .add 3 t_3 (.int .i64 1)) w fun t_34 w =>
    pvv prog (binOp .lss 3 t_34 hi_p2) w fun t_35 w =>
    gate (some (t_35, true)) (fun K => K data_p0 w) w fun t_36 w =>
    gate (some (t_35, true)) (fun K => K first_p3 w) w fun t_37 w =>
    gate (some (t_35, true)) (fun K => K t_3 w) w fun t_38 w =>
    gate (some (t_35, true)) (fun K => pvv prog (binOp .add 3 t_37 t_38) w K) w fun t_39 w =>
    gate (some (t_35, true)) (fun K => pvv prog (Instr.indexAt 31 t_36 t_39) w K) w fun t_40 w =>
    gate (some (t_35, true)) (fun K => K data_p0 w) w fun t_41 w =>
    gate (some (t_35, true)) (fun K => K first_p3 w) w fun t_42 w =>
    gate (some (t_35, true)) (fun K => K t_3 w) w fun t_43 w =>
    gate (some (t_35, true)) (fun K => pvv prog (binOp .add 3 t_42 t_43) w K) w fun t_44 w =>
    gate (some (t_35, true)) (fun K => pvv prog (binOp .add 3 t_44 (.int .i64 1)) w K) w fun t_45 w =>
    gate (some (t_35, true)) (fun K => pvv prog (Instr.indexAt 31 t_41 t_45) w K) w fun t_46 w =>
    bindS (vN (Instr.loadAt 3 t_40)) fun m_48 => gate (some (t_35, true)) (fun K => ldv prog (Instr.loadAt 3 t_40) w K) w fun t_47 w =>
    bindS (vN (Instr.loadAt 3 t_46)) fun m_50 => gate (some (t_35, true)) (fun K => ldv prog (Instr.loadAt 3 t_46) w K) w fun t_49 w =>
    gate (some (t_35, true)) (fun K => Calls prog 83 #[t_47, t_49] w (Ret fun s_54 w => K s_54 w)) w fun t_51 w =>
    pv prog (oPick t_35 t_51 (.bool false)) w fun t_52 w =>
    cd t_52 (
      pvv prog (binOp .add 3 t_3 (.int .i64 1)) w fun t_53 w =>
      k_33 [t_53] w) <|
    k_33 [t_3] w) [lo_p1] w
theorem B96_eq (data_p0 lo_p1 hi_p2 first_p3 : Value) (w : World) (K : Value → World → Prop) : denFn prog Tryz.f96 T96 [data_p0, lo_p1, hi_p2, first_p3] w K = B96 data_p0 lo_p1 hi_p2 first_p3 w K := by kernel_rfl
theorem c96 {data_p0 lo_p1 hi_p2 first_p3 : Value} {w : World} {K : Value → World → Prop} (h : B96 data_p0 lo_p1 hi_p2 first_p3 w K) : Calls prog 96 #[data_p0, lo_p1, hi_p2, first_p3] w (Ret K) :=
  denFn_calls Tryz.func96 T96_ok (Eq.mpr (B96_eq data_p0 lo_p1 hi_p2 first_p3 w K) h)

-- 53 slices.breakPatternsCmpFunc[holdfast/api.Row]
def T53 : Ann := (.seq .none (.seq .none (.seq (.seq .none (.seq .none (.seq .none (.block (.loop 147573952589407983616 [11] (.seq (.seq .none (.seq .none .none)) (.seq (.block (.seq .none (.meet 554153860403200 [12] (.seq .none (.seq .none .none)) (.draw [.op 0 .pure, .op 1 .pure, .op 2 .pure, .op 3 .pure, .op 4 .pure, .op 5 .pure, .op 6 .pure, .op 7 .pure, .op 8 .pure, .op 9 .pure, .op 10 .pure, .op 12 .pure, .op 13 .pure, .op 14 .pure, .op 11 .load, .op 15 .load, .op 16 .pure, .op 17 .eff, .op 18 .pure, .op 19 .eff])))) .none))))))) .none)))
theorem T53_ok : chkFn prog Tryz.f53 T53 = true := by kernel_rfl
def B53 (data_p0 a_p1 b_p2 cmp_p3 : Value) (w : World) (K : Value → World → Prop) : Prop :=
  pvv prog (binOp .sub 3 b_p2 a_p1) w fun t_0 w =>
  pvv prog (binOp .geq 3 t_0 (.int .i64 8)) w fun t_1 w =>
  cd t_1 (
    pvv prog (convert 3 104 t_0) w fun t_2 w =>
    efv prog (Instr.alloc 104 true (.tuple #[])) w fun random_3 w =>
    efu prog (Instr.storeAt 104 random_3 t_2) w fun u_4 w =>
    Calls prog 70 #[t_0] w (Ret fun t_5 w =>
    pvv prog (binOp .quo 3 t_0 (.int .i64 4)) w fun t_6 w =>
    pvv prog (binOp .mul 3 t_6 (.int .i64 2)) w fun t_7 w =>
    pvv prog (binOp .add 3 a_p1 t_7) w fun t_8 w =>
    pvv prog (binOp .sub 3 t_8 (.int .i64 1)) w fun t_9 w =>
    lp (fun σ w again_11 => pop σ fun idx_10 σ => fin σ <|
      pvv prog (binOp .quo 3 t_0 (.int .i64 4)) w fun t_12 w =>
      pvv prog (binOp .mul 3 t_12 (.int .i64 2)) w fun t_13 w =>
      pvv prog (binOp .add 3 a_p1 t_13) w fun t_14 w =>
      pvv prog (binOp .add 3 t_14 (.int .i64 1)) w fun t_15 w =>
      pvv prog (binOp .leq 3 idx_10 t_15) w fun t_16 w =>
      cd t_16 (
        Calls prog 71 #[random_3] w (Ret fun t_17 w =>
        pvv prog (binOp .sub 74 t_5 (.int .u64 1)) w fun t_18 w =>
        pvv prog (binOp .and 74 t_17 t_18) w fun t_19 w =>
        pvv prog (convert 74 3 t_19) w fun t_20 w =>
        jn (fun σ w => pop σ fun other_21 σ => fin σ <|
          dr w fun w =>
          pvv prog (binOp .add 3 a_p1 other_21) w fun t_22 w =>
          pvv prog (binOp .add 3 a_p1 other_21) w fun t_23 w =>
          pvv prog (Instr.indexAt 40 data_p0 t_23) w fun t_24 w =>
          pvv prog (Instr.indexAt 40 data_p0 idx_10) w fun t_25 w =>
          bindS (vN (Instr.loadAt 58 t_24)) fun m_27 => ldv prog (Instr.loadAt 58 t_24) w fun t_26 w =>
          bindS (vN (Instr.loadAt 58 t_25)) fun m_29 => ldv prog (Instr.loadAt 58 t_25) w fun t_28 w =>
          pvv prog (Instr.indexAt 40 data_p0 idx_10) w fun t_30 w =>
          efu prog (Instr.storeAt 58 t_30 t_26) w fun u_31 w =>
          pvv prog (Instr.indexAt 40 data_p0 t_22) w fun t_32 w =>
          efu prog (Instr.storeAt 58 t_32 t_28) w fun u_33 w =>
          pvv prog (binOp .add 3 idx_10 (.int .i64 1)) w fun t_34 w =>
          again_11 [t_34] w) fun k_37 =>
        pvv prog (binOp .geq 3 t_20 t_0) w fun t_38 w =>
        cd t_38 (
          pvv prog (binOp .sub 3 t_20 t_0) w fun t_39 w =>
          k_37 [t_39] w) <|
        k_37 [t_20] w)) <|
      K (.tuple #[]) w) [t_9] w)) <|
  K (.tuple #[]) w
theorem B53_eq (data_p0 a_p1 b_p2 cmp_p3 : Value) (w : World) (K : Value → World → Prop) : denFn prog Tryz.f53 T53 [data_p0, a_p1, b_p2, cmp_p3] w K = B53 data_p0 a_p1 b_p2 cmp_p3 w K := by kernel_rfl
theorem c53 {data_p0 a_p1 b_p2 cmp_p3 : Value} {w : World} {K : Value → World → Prop} (h : B53 data_p0 a_p1 b_p2 cmp_p3 w K) : Calls prog 53 #[data_p0, a_p1, b_p2, cmp_p3] w (Ret K) :=
  denFn_calls Tryz.func53 T53_ok (Eq.mpr (B53_eq data_p0 a_p1 b_p2 cmp_p3 w K) h)

-- 9 holdfast/holdfastlaw11.live
def T9 : Ann := (.seq .none (.seq .none (.seq (.seq .none (.seq (.seq .none .none) .none)) (.seq .none (.seq .none (.seq .none (.seq .none .none)))))))
theorem T9_ok : chkFn prog Tryz.f9 T9 = true := by kernel_rfl
def B9 (w : World) (K : Value → World → Prop) : Prop :=
  Calls prog 22 #[] w (Ret fun t_0 w =>
  pvv prog (oEq .eql 24 (.tmp 9) (.const (.pointer none)) t_0 (.pointer none)) w fun t_1 w =>
  cd t_1 (
    K (.bool false) w) <|
  pvv prog (Instr.build 23 #[(0, (.string ⟨#[116]⟩)), (1, (.string ⟨#[117]⟩))]) w fun t_2 w =>
  Calls prog 4 #[t_0, t_2, (.int .i64 0)] w (Ret fun t_3 w =>
  pvv prog (Instr.extract t_3 0) w fun t_4 w =>
  pvv prog (Instr.extract t_3 1) w fun t_5 w =>
  efv prog (Instr.alloc 26 true (.tuple #[])) w fun s_6 w =>
  efu prog (Instr.storeAt 26 s_6 t_4) w fun u_7 w =>
  Calls prog 5 #[t_0, (.int .i64 1), (.int .i64 199)] w (Ret fun t_8 w =>
  pvv prog (Instr.extract t_8 0) w fun t_9 w =>
  pvv prog (Instr.extract t_8 1) w fun t_10 w =>
  efv prog (Instr.alloc 26 true (.tuple #[])) w fun x_11 w =>
  efu prog (Instr.storeAt 26 x_11 t_9) w fun u_12 w =>
  Calls prog 5 #[t_0, (.int .i64 1), (.int .i64 399)] w (Ret fun t_13 w =>
  pvv prog (Instr.extract t_13 0) w fun t_14 w =>
  pvv prog (Instr.extract t_13 1) w fun t_15 w =>
  efv prog (Instr.alloc 26 true (.tuple #[])) w fun t_16 w =>
  efu prog (Instr.storeAt 26 t_16 t_14) w fun u_17 w =>
  pvv prog (oEq .eql 27 (.tmp 27) (.const (.int .i64 0)) t_5 (.int .i64 0)) w fun t_18 w =>
  gate (some (t_18, true)) (fun K => pvv prog (Instr.fieldAt 26 s_6 0) w K) w fun t_19 w =>
  gate (some (t_18, true)) (fun K => ldv prog (Instr.loadAt 3 t_19) w K) w fun t_20 w =>
  gate (some (t_18, true)) (fun K => pvv prog (oEq .eql 3 (.tmp 31) (.const (.int .i64 1)) t_20 (.int .i64 1)) w K) w fun t_21 w =>
  pv prog (oPick t_18 t_21 (.bool false)) w fun t_22 w =>
  gate (some (t_22, true)) (fun K => K t_10 w) w fun t_23 w =>
  gate (some (t_22, true)) (fun K => pvv prog (oEq .eql 27 (.tmp 35) (.const (.int .i64 0)) t_23 (.int .i64 0)) w K) w fun t_24 w =>
  pv prog (oPick t_22 t_24 (.bool false)) w fun t_25 w =>
  gate (some (t_25, true)) (fun K => pvv prog (Instr.fieldAt 26 x_11 3) w K) w fun t_26 w =>
  gate (some (t_25, true)) (fun K => ldv prog (Instr.loadAt 3 t_26) w K) w fun t_27 w =>
  gate (some (t_25, true)) (fun K => pvv prog (oEq .eql 3 (.tmp 40) (.const (.int .i64 199)) t_27 (.int .i64 199)) w K) w fun t_28 w =>
  pv prog (oPick t_25 t_28 (.bool false)) w fun t_29 w =>
  gate (some (t_29, true)) (fun K => K t_15 w) w fun t_30 w =>
  gate (some (t_29, true)) (fun K => pvv prog (oEq .eql 27 (.tmp 44) (.const (.int .i64 12)) t_30 (.int .i64 12)) w K) w fun t_31 w =>
  pv prog (oPick t_29 t_31 (.bool false)) w fun t_32 w =>
  gate (some (t_32, true)) (fun K => ldv prog (Instr.loadAt 26 x_11) w K) w fun t_33 w =>
  gate (some (t_32, true)) (fun K => Calls prog 17 #[t_33] w (Ret K)) w fun t_34 w =>
  gate (some (t_32, true)) (fun K => pvv prog (oEq .eql 3 (.tmp 49) (.const (.int .i64 399)) t_34 (.int .i64 399)) w K) w fun t_35 w =>
  pv prog (oPick t_32 t_35 (.bool false)) w fun t_36 w =>
  K t_36 w))))
theorem B9_eq (w : World) (K : Value → World → Prop) : denFn prog Tryz.f9 T9 [] w K = B9  w K := by kernel_rfl
theorem c9 {w : World} {K : Value → World → Prop} (h : B9  w K) : Calls prog 9 #[] w (Ret K) :=
  denFn_calls Tryz.func9 T9_ok (Eq.mpr (B9_eq  w K) h)

-- 80 slices.choosePivotOrdered[int]
def T80 : Ann := (.seq .none (.seq .none (.seq .none (.seq .none (.seq .none (.seq .none (.meet 562947805944832 [11] (.seq .none (.seq (.meet 17583596116992 [10, 11, 12] (.seq .none (.seq (.seq .none (.seq .none .none)) .none)) .none) .none)) (.seq .none (.block (.seq .none (.seq (.seq .none .none) (.seq .none (.seq (.seq .none .none) (.seq .none .none))))))))))))))
theorem T80_ok : chkFn prog Tryz.f80 T80 = true := by kernel_rfl
def B80 (data_p0 a_p1 b_p2 : Value) (w : World) (K : Value → World → Prop) : Prop :=
  pvv prog (binOp .sub 3 b_p2 a_p1) w fun t_0 w =>
  efv prog (Instr.alloc 3 true (.tuple #[])) w fun swaps_1 w =>
  pvv prog (binOp .quo 3 t_0 (.int .i64 4)) w fun t_2 w =>
  pvv prog (binOp .mul 3 t_2 (.int .i64 1)) w fun t_3 w =>
  pvv prog (binOp .add 3 a_p1 t_3) w fun t_4 w =>
  pvv prog (binOp .quo 3 t_0 (.int .i64 4)) w fun t_5 w =>
  pvv prog (binOp .mul 3 t_5 (.int .i64 2)) w fun t_6 w =>
  pvv prog (binOp .add 3 a_p1 t_6) w fun t_7 w =>
  pvv prog (binOp .quo 3 t_0 (.int .i64 4)) w fun t_8 w =>
  pvv prog (binOp .mul 3 t_8 (.int .i64 3)) w fun t_9 w =>
  pvv prog (binOp .add 3 a_p1 t_9) w fun t_10 w =>
  jn (fun σ w => pop σ fun j_11 σ => fin σ <|
    ldv prog (Instr.loadAt 3 swaps_1) w fun t_12 w =>
    pvv prog (oEq .eql 3 (.tmp 49) (.const (.int .i64 0)) t_12 (.int .i64 0)) w fun t_13 w =>
    cd t_13 (
      K (.tuple #[j_11, (.int .i64 1)]) w) <|
    pvv prog (oEq .eql 3 (.tmp 49) (.const (.int .i64 12)) t_12 (.int .i64 12)) w fun t_14 w =>
    cd t_14 (
      K (.tuple #[j_11, (.int .i64 2)]) w) <|
    K (.tuple #[j_11, (.int .i64 0)]) w) fun k_15 =>
  pvv prog (binOp .geq 3 t_0 (.int .i64 8)) w fun t_16 w =>
  cd t_16 (
    jn (fun σ w => pop σ fun i_17 σ => pop σ fun j_18 σ => pop σ fun k_19 σ => fin σ <|
      Calls prog 98 #[data_p0, i_17, j_18, k_19, swaps_1] w (Ret fun t_20 w =>
      k_15 [t_20] w)) fun k_21 =>
    pvv prog (binOp .geq 3 t_0 (.int .i64 50)) w fun t_22 w =>
    cd t_22 (
      Calls prog 97 #[data_p0, t_4, swaps_1] w (Ret fun t_23 w =>
      Calls prog 97 #[data_p0, t_7, swaps_1] w (Ret fun t_24 w =>
      Calls prog 97 #[data_p0, t_10, swaps_1] w (Ret fun t_25 w =>
      k_21 [t_23, t_24, t_25] w)))) <|
    k_21 [t_4, t_7, t_10] w) <|
  k_15 [t_7] w
theorem B80_eq (data_p0 a_p1 b_p2 : Value) (w : World) (K : Value → World → Prop) : denFn prog Tryz.f80 T80 [data_p0, a_p1, b_p2] w K = B80 data_p0 a_p1 b_p2 w K := by kernel_rfl
theorem c80 {data_p0 a_p1 b_p2 : Value} {w : World} {K : Value → World → Prop} (h : B80 data_p0 a_p1 b_p2 w K) : Calls prog 80 #[data_p0, a_p1, b_p2] w (Ret K) :=
  denFn_calls Tryz.func80 T80_ok (Eq.mpr (B80_eq data_p0 a_p1 b_p2 w K) h)

-- 6 (*holdfast/session.Table).Get
def T6 : Ann := (.seq .none (.seq (.seq .none (.seq .none (.seq (.seq .none .none) .none))) (.seq .none (.seq (.seq .none (.seq (.seq .none .none) .none)) (.seq .none .none)))))
theorem T6_ok : chkFn prog Tryz.f6 T6 = true := by kernel_rfl
def B6 (t_p0 id_p1 now_p2 : Value) (w : World) (K : Value → World → Prop) : Prop :=
  efv prog (Instr.alloc 26 true (.tuple #[])) w fun t_0 w =>
  Calls prog 15 #[t_p0, now_p2] w (Ret fun t_1 w =>
  pvv prog (oEq .neq 27 (.tmp 14) (.const (.int .i64 0)) t_1 (.int .i64 0)) w fun t_2 w =>
  cd t_2 (
    pvv prog (Instr.build 26 #[]) w fun t_3 w =>
    efu prog (Instr.storeAt 26 t_0 t_3) w fun u_4 w =>
    ∃ r_5, (do loadVar 26 (← asAddr t_0)).run prog w = .ok r_5 w ∧ K (.tuple #[r_5, t_1]) w) <|
  Calls prog 16 #[t_p0, id_p1] w (Ret fun t_6 w =>
  pvv prog (Instr.extract t_6 0) w fun t_7 w =>
  pvv prog (Instr.extract t_6 1) w fun t_8 w =>
  efv prog (Instr.alloc 26 true (.tuple #[])) w fun s_9 w =>
  efu prog (Instr.storeAt 26 s_9 t_7) w fun u_10 w =>
  pvv prog (oEq .eql 27 (.tmp 24) (.const (.int .i64 0)) t_8 (.int .i64 0)) w fun t_11 w =>
  gate (some (t_11, true)) (fun K => K now_p2 w) w fun t_12 w =>
  gate (some (t_11, true)) (fun K => ldv prog (Instr.loadAt 26 s_9) w K) w fun t_13 w =>
  gate (some (t_11, true)) (fun K => Calls prog 17 #[t_13] w (Ret K)) w fun t_14 w =>
  gate (some (t_11, true)) (fun K => pvv prog (binOp .geq 3 t_12 t_14) w K) w fun t_15 w =>
  pv prog (oPick t_11 t_15 (.bool false)) w fun t_16 w =>
  cd t_16 (
    pvv prog (Instr.build 26 #[]) w fun t_17 w =>
    efu prog (Instr.storeAt 26 t_0 t_17) w fun u_18 w =>
    ∃ r_19, (do loadVar 26 (← asAddr t_0)).run prog w = .ok r_19 w ∧ K (.tuple #[r_19, (.int .i64 12)]) w) <|
  ldv prog (Instr.loadAt 26 s_9) w fun t_20 w =>
  efu prog (Instr.storeAt 26 t_0 t_20) w fun u_21 w =>
  ∃ r_22, (do loadVar 26 (← asAddr t_0)).run prog w = .ok r_22 w ∧ K (.tuple #[r_22, t_8]) w))
theorem B6_eq (t_p0 id_p1 now_p2 : Value) (w : World) (K : Value → World → Prop) : denFn prog Tryz.f6 T6 [t_p0, id_p1, now_p2] w K = B6 t_p0 id_p1 now_p2 w K := by kernel_rfl
theorem c6 {t_p0 id_p1 now_p2 : Value} {w : World} {K : Value → World → Prop} (h : B6 t_p0 id_p1 now_p2 w K) : Calls prog 6 #[t_p0, id_p1, now_p2] w (Ret K) :=
  denFn_calls Tryz.func6 T6_ok (Eq.mpr (B6_eq t_p0 id_p1 now_p2 w K) h)

-- 18 (*holdfast/session.Table).ended
def T18 : Ann := (.seq .none (.seq .none (.seq (.seq .none (.block (.loop 67108000 [5, 10] (.seq .none (.seq (.seq .none .none) (.seq (.block (.seq .none (.seq (.draw [.op 0 .pure, .op 1 .pure, .op 2 .pure, .op 4 .pure, .op 3 .load, .op 5 .load, .op 6 .eff]) .none))) .none)))))) (.seq .none .none))))
theorem T18_ok : chkFn prog Tryz.f18 T18 = true := by kernel_rfl
def B18 (t_p0 l_p1 : Value) (w : World) (K : Value → World → Prop) : Prop :=
  pv prog (oBi .len #[34] 3 #[false] #[l_p1]) w fun t_0 w =>
  lp (fun σ w again_3 => pop σ fun out_1 σ => pop σ fun t_2 σ => fin σ <|
    pvv prog (binOp .lss 3 t_2 t_0) w fun t_4 w =>
    cd t_4 (
      pvv prog (Instr.indexAt 34 l_p1 t_2) w fun t_5 w =>
      ldv prog (Instr.loadAt 26 t_5) w fun t_6 w =>
      efv prog (Instr.alloc 26 true (.tuple #[])) w fun s_7 w =>
      efu prog (Instr.storeAt 26 s_7 t_6) w fun u_8 w =>
      dr w fun w =>
      pv prog (oNil t_p0) w fun t_9 w =>
      pvv prog (Instr.fieldAt 49 t_9 2) w fun t_10 w =>
      pvv prog (Instr.fieldAt 26 s_7 0) w fun t_11 w =>
      bindS (vN (Instr.loadAt 47 t_10)) fun m_13 => ldv prog (Instr.loadAt 47 t_10) w fun t_12 w =>
      bindS (vN (Instr.loadAt 3 t_11)) fun m_15 => ldv prog (Instr.loadAt 3 t_11) w fun t_14 w =>
      ef prog (oBi .delete #[47, 3] 0 #[false, false] #[t_12, t_14]) w fun u_16 w =>
      pvv prog (Instr.fieldAt 26 s_7 0) w fun t_17 w =>
      ldv prog (Instr.loadAt 3 t_17) w fun t_18 w =>
      efv prog (Instr.buildSlice 31 1 #[(0, t_18)]) w fun t_19 w =>
      ef prog (oBi .append #[31, 31] 31 #[false, false] #[out_1, t_19]) w fun t_20 w =>
      pvv prog (binOp .add 3 t_2 (.int .i64 1)) w fun t_21 w =>
      again_3 [t_20, t_21] w) <|
    K out_1 w) [(.slice none 0 0), (.int .i64 0)] w
theorem B18_eq (t_p0 l_p1 : Value) (w : World) (K : Value → World → Prop) : denFn prog Tryz.f18 T18 [t_p0, l_p1] w K = B18 t_p0 l_p1 w K := by kernel_rfl
theorem c18 {t_p0 l_p1 : Value} {w : World} {K : Value → World → Prop} (h : B18 t_p0 l_p1 w K) : Calls prog 18 #[t_p0, l_p1] w (Ret K) :=
  denFn_calls Tryz.func18 T18_ok (Eq.mpr (B18_eq t_p0 l_p1 w K) h)

-- 55 slices.reverseRangeCmpFunc[holdfast/api.Row]
def T55 : Ann := (.seq .none (.seq .none (.block (.loop 17179861760 [8, 9] (.seq (.seq .none (.seq .none .none)) (.block (.seq (.draw [.op 0 .pure, .op 1 .pure, .op 2 .pure, .op 3 .pure, .op 4 .pure, .op 5 .pure, .op 6 .pure, .op 8 .pure, .op 9 .pure, .op 10 .pure, .op 7 .load, .op 11 .load, .op 12 .pure, .op 13 .eff, .op 14 .pure, .op 15 .eff]) (.seq .none .none))))))))
theorem T55_ok : chkFn prog Tryz.f55 T55 = true := by kernel_rfl
def B55 (data_p0 a_p1 b_p2 cmp_p3 : Value) (w : World) (K : Value → World → Prop) : Prop :=
  pvv prog (binOp .sub 3 b_p2 (.int .i64 1)) w fun t_0 w =>
  lp (fun σ w again_3 => pop σ fun i_1 σ => pop σ fun j_2 σ => fin σ <|
    pvv prog (binOp .lss 3 i_1 j_2) w fun t_4 w =>
    cd t_4 (
      dr w fun w =>
      pvv prog (Instr.indexAt 40 data_p0 j_2) w fun t_5 w =>
      pvv prog (Instr.indexAt 40 data_p0 i_1) w fun t_6 w =>
      bindS (vN (Instr.loadAt 58 t_5)) fun m_8 => ldv prog (Instr.loadAt 58 t_5) w fun t_7 w =>
      bindS (vN (Instr.loadAt 58 t_6)) fun m_10 => ldv prog (Instr.loadAt 58 t_6) w fun t_9 w =>
      pvv prog (Instr.indexAt 40 data_p0 i_1) w fun t_11 w =>
      efu prog (Instr.storeAt 58 t_11 t_7) w fun u_12 w =>
      pvv prog (Instr.indexAt 40 data_p0 j_2) w fun t_13 w =>
      efu prog (Instr.storeAt 58 t_13 t_9) w fun u_14 w =>
      pvv prog (binOp .add 3 i_1 (.int .i64 1)) w fun t_15 w =>
      pvv prog (binOp .sub 3 j_2 (.int .i64 1)) w fun t_16 w =>
      again_3 [t_15, t_16] w) <|
    K (.tuple #[]) w) [a_p1, t_0] w
theorem B55_eq (data_p0 a_p1 b_p2 cmp_p3 : Value) (w : World) (K : Value → World → Prop) : denFn prog Tryz.f55 T55 [data_p0, a_p1, b_p2, cmp_p3] w K = B55 data_p0 a_p1 b_p2 cmp_p3 w K := by kernel_rfl
theorem c55 {data_p0 a_p1 b_p2 cmp_p3 : Value} {w : World} {K : Value → World → Prop} (h : B55 data_p0 a_p1 b_p2 cmp_p3 w K) : Calls prog 55 #[data_p0, a_p1, b_p2, cmp_p3] w (Ret K) :=
  denFn_calls Tryz.func55 T55_ok (Eq.mpr (B55_eq data_p0 a_p1 b_p2 cmp_p3 w K) h)

-- 21 (*holdfast/session.Table).Live$1
def T21 : Ann := (.seq .none (.seq (.draw [.op 0 .pure, .op 1 .load, .op 2 .load, .op 3 .pure, .op 4 .pure, .op 5 .load, .op 6 .load, .op 7 .eff, .op 8 .pure, .op 9 .pure, .op 10 .pure]) .none))
theorem T21_ok : chkFn prog Tryz.f21 T21 = true := by kernel_rfl
def B21 (s_p0 x_p1 x_p2 : Value) (w : World) (K : Value → World → Prop) : Prop :=
  efv prog (Instr.box 26 s_p0) w fun s_0 w =>
  dr w fun w =>
  pvv prog (Instr.fieldAt 26 s_0 1) w fun t_1 w =>
  bindS (vN (Instr.loadAt 23 t_1)) fun m_3 => ldv prog (Instr.loadAt 23 t_1) w fun t_2 w =>
  bindS (vN (Instr.loadAt 23 x_p1)) fun m_5 => ldv prog (Instr.loadAt 23 x_p1) w fun t_4 w =>
  pvv prog (oEq .eql 23 (.tmp 6) (.tmp 7) t_2 t_4) w fun t_6 w =>
  bindS (vN (Instr.loadAt 3 x_p2)) fun m_8 => gate (some (t_6, true)) (fun K => ldv prog (Instr.loadAt 3 x_p2) w K) w fun t_7 w =>
  bindS (vN (Instr.loadAt 26 s_0)) fun m_10 => gate (some (t_6, true)) (fun K => ldv prog (Instr.loadAt 26 s_0) w K) w fun t_9 w =>
  gate (some (t_6, true)) (fun K => Calls prog 17 #[t_9] w (Ret fun s_14 w => stay prog (some (t_6, true)) m_8 t_7 w <| stay prog none m_5 t_4 w <| stay prog none m_3 t_2 w <| K s_14 w)) w fun t_11 w =>
  gate (some (t_6, true)) (fun K => pvv prog (binOp .lss 3 t_7 t_11) w K) w fun t_12 w =>
  pv prog (oPick t_6 t_12 (.bool false)) w fun t_13 w =>
  K t_13 w
theorem B21_eq (s_p0 x_p1 x_p2 : Value) (w : World) (K : Value → World → Prop) : denFn prog Tryz.f21 T21 [s_p0, x_p1, x_p2] w K = B21 s_p0 x_p1 x_p2 w K := by kernel_rfl
theorem c21 {s_p0 x_p1 x_p2 : Value} {w : World} {K : Value → World → Prop} (h : B21 s_p0 x_p1 x_p2 w K) : Calls prog 21 #[s_p0, x_p1, x_p2] w (Ret K) :=
  denFn_calls Tryz.func21 T21_ok (Eq.mpr (B21_eq s_p0 x_p1 x_p2 w K) h)

-- 105 slices.order2Ordered[int]
def T105 : Ann := (.seq .none (.seq (.seq (.draw [.op 0 .pure, .op 1 .pure, .op 2 .pure, .op 4 .pure, .op 5 .pure, .op 6 .pure, .op 3 .load, .op 7 .load, .op 8 .eff]) (.seq (.seq .none (.seq .none .none)) .none)) (.seq .none .none)))
theorem T105_ok : chkFn prog Tryz.f105 T105 = true := by kernel_rfl
def B105 (data_p0 a_p1 b_p2 swaps_p3 : Value) (w : World) (K : Value → World → Prop) : Prop :=
  dr w fun w =>
  pvv prog (Instr.indexAt 31 data_p0 b_p2) w fun t_0 w =>
  pvv prog (Instr.indexAt 31 data_p0 a_p1) w fun t_1 w =>
  bindS (vN (Instr.loadAt 3 t_0)) fun m_3 => ldv prog (Instr.loadAt 3 t_0) w fun t_2 w =>
  bindS (vN (Instr.loadAt 3 t_1)) fun m_5 => ldv prog (Instr.loadAt 3 t_1) w fun t_4 w =>
  Calls prog 83 #[t_2, t_4] w (Ret fun t_6 w =>
  cd t_6 (
    pv prog (oNil swaps_p3) w fun t_7 w =>
    ldv prog (Instr.loadAt 3 t_7) w fun t_8 w =>
    pvv prog (binOp .add 3 t_8 (.int .i64 1)) w fun t_9 w =>
    pv prog (oNil swaps_p3) w fun t_10 w =>
    efu prog (Instr.storeAt 3 t_10 t_9) w fun u_11 w =>
    K (.tuple #[b_p2, a_p1]) w) <|
  K (.tuple #[a_p1, b_p2]) w)
theorem B105_eq (data_p0 a_p1 b_p2 swaps_p3 : Value) (w : World) (K : Value → World → Prop) : denFn prog Tryz.f105 T105 [data_p0, a_p1, b_p2, swaps_p3] w K = B105 data_p0 a_p1 b_p2 swaps_p3 w K := by kernel_rfl
theorem c105 {data_p0 a_p1 b_p2 swaps_p3 : Value} {w : World} {K : Value → World → Prop} (h : B105 data_p0 a_p1 b_p2 swaps_p3 w K) : Calls prog 105 #[data_p0, a_p1, b_p2, swaps_p3] w (Ret K) :=
  denFn_calls Tryz.func105 T105_ok (Eq.mpr (B105_eq data_p0 a_p1 b_p2 swaps_p3 w K) h)

-- 14 holdfast/codec.IsName
def T14 : Ann := (.seq .none (.seq .none .none))
theorem T14_ok : chkFn prog Tryz.f14 T14 = true := by kernel_rfl
def B14 (s_p0 : Value) (w : World) (K : Value → World → Prop) : Prop :=
  pvv prog (oEq .neq 9 (.tmp 3) (.const (.string ⟨#[]⟩)) s_p0 (.string ⟨#[]⟩)) w fun t_0 w =>
  gate (some (t_0, true)) (fun K => K s_p0 w) w fun t_1 w =>
  gate (some (t_0, true)) (fun K => pv prog (oBi .len #[9] 3 #[false] #[t_1]) w K) w fun t_2 w =>
  gate (some (t_0, true)) (fun K => pvv prog (binOp .leq 3 t_2 (.int .i64 9)) w K) w fun t_3 w =>
  pv prog (oPick t_0 t_3 (.bool false)) w fun t_4 w =>
  gate (some (t_4, true)) (fun K => K s_p0 w) w fun t_5 w =>
  gate (some (t_4, true)) (fun K => Calls prog 29 #[t_5, (.string ⟨#[97, 98, 99, 100, 101, 102, 103, 104, 105, 106, 107, 108, 109, 110, 111, 112, 113, 114, 115, 116, 117, 118, 119, 120, 121, 122, 48, 49, 50, 51, 52, 53, 54, 55, 56, 57, 45]⟩)] w (Ret K)) w fun t_6 w =>
  gate (some (t_4, true)) (fun K => pvv prog (oEq .eql 9 (.tmp 12) (.const (.string ⟨#[]⟩)) t_6 (.string ⟨#[]⟩)) w K) w fun t_7 w =>
  pv prog (oPick t_4 t_7 (.bool false)) w fun t_8 w =>
  K t_8 w
theorem B14_eq (s_p0 : Value) (w : World) (K : Value → World → Prop) : denFn prog Tryz.f14 T14 [s_p0] w K = B14 s_p0 w K := by kernel_rfl
theorem c14 {s_p0 : Value} {w : World} {K : Value → World → Prop} (h : B14 s_p0 w K) : Calls prog 14 #[s_p0] w (Ret K) :=
  denFn_calls Tryz.func14 T14_ok (Eq.mpr (B14_eq s_p0 w K) h)

-- 34 holdfast/codec.Number
def T34 : Ann := (.seq .none (.seq (.seq .none (.seq (.seq .none .none) .none)) (.seq .none (.seq .none .none))))
theorem T34_ok : chkFn prog Tryz.f34 T34 = true := by kernel_rfl
def B34 (n_p0 : Value) (w : World) (K : Value → World → Prop) : Prop :=
  pvv prog (binOp .lss 3 n_p0 (.int .i64 0)) w fun t_0 w =>
  gate (some (t_0, false)) (fun K => K n_p0 w) w fun t_1 w =>
  gate (some (t_0, false)) (fun K => pvv prog (binOp .gtr 3 t_1 (.int .i64 4611686018427387904)) w K) w fun t_2 w =>
  pv prog (oPick t_0 (.bool true) t_2) w fun t_3 w =>
  cd t_3 (
    K (.tuple #[(.string ⟨#[]⟩), (.int .i64 2)]) w) <|
  Calls prog 50 #[n_p0, (.int .i64 16)] w (Ret fun t_4 w =>
  Calls prog 49 #[t_4, (.string ⟨#[48]⟩)] w (Ret fun t_5 w =>
  pv prog (oBi .len #[9] 3 #[false] #[t_5]) w fun t_6 w =>
  pvv prog (binOp .add 3 (.int .i64 97) t_6) w fun t_7 w =>
  pvv prog (convert 3 21 t_7) w fun t_8 w =>
  pvv prog (convert 21 9 t_8) w fun t_9 w =>
  pvv prog (binOp .add 9 t_9 t_5) w fun t_10 w =>
  K (.tuple #[t_10, (.int .i64 0)]) w))
theorem B34_eq (n_p0 : Value) (w : World) (K : Value → World → Prop) : denFn prog Tryz.f34 T34 [n_p0] w K = B34 n_p0 w K := by kernel_rfl
theorem c34 {n_p0 : Value} {w : World} {K : Value → World → Prop} (h : B34 n_p0 w K) : Calls prog 34 #[n_p0] w (Ret K) :=
  denFn_calls Tryz.func34 T34_ok (Eq.mpr (B34_eq n_p0 w K) h)

-- 98 slices.medianOrdered[int]
def T98 : Ann := (.seq .none (.seq .none (.seq .none (.seq .none (.seq .none .none)))))
theorem T98_ok : chkFn prog Tryz.f98 T98 = true := by kernel_rfl
def B98 (data_p0 a_p1 b_p2 c_p3 swaps_p4 : Value) (w : World) (K : Value → World → Prop) : Prop :=
  Calls prog 105 #[data_p0, a_p1, b_p2, swaps_p4] w (Ret fun t_0 w =>
  pvv prog (Instr.extract t_0 0) w fun t_1 w =>
  pvv prog (Instr.extract t_0 1) w fun t_2 w =>
  Calls prog 105 #[data_p0, t_2, c_p3, swaps_p4] w (Ret fun t_3 w =>
  pvv prog (Instr.extract t_3 0) w fun t_4 w =>
  pvv prog (Instr.extract t_3 1) w fun t_5 w =>
  Calls prog 105 #[data_p0, t_1, t_4, swaps_p4] w (Ret fun t_6 w =>
  pvv prog (Instr.extract t_6 0) w fun t_7 w =>
  pvv prog (Instr.extract t_6 1) w fun t_8 w =>
  K t_8 w)))
theorem B98_eq (data_p0 a_p1 b_p2 c_p3 swaps_p4 : Value) (w : World) (K : Value → World → Prop) : denFn prog Tryz.f98 T98 [data_p0, a_p1, b_p2, c_p3, swaps_p4] w K = B98 data_p0 a_p1 b_p2 c_p3 swaps_p4 w K := by kernel_rfl
theorem c98 {data_p0 a_p1 b_p2 c_p3 swaps_p4 : Value} {w : World} {K : Value → World → Prop} (h : B98 data_p0 a_p1 b_p2 c_p3 swaps_p4 w K) : Calls prog 98 #[data_p0, a_p1, b_p2, c_p3, swaps_p4] w (Ret K) :=
  denFn_calls Tryz.func98 T98_ok (Eq.mpr (B98_eq data_p0 a_p1 b_p2 c_p3 swaps_p4 w K) h)

-- 27 cmp.Compare[string]
def T27 : Ann := (.seq .none (.seq .none (.seq .none (.seq (.seq .none (.seq (.seq (.seq .none (.seq (.seq .none .none) .none)) (.seq .none .none)) .none)) (.seq (.seq .none (.seq (.seq .none .none) .none)) (.seq (.seq .none (.seq (.seq .none .none) .none)) (.seq (.seq .none (.seq (.seq .none .none) .none)) (.seq .none .none))))))))
theorem T27_ok : chkFn prog Tryz.f27 T27 = true := by kernel_rfl
def B27 (x_p0 y_p1 : Value) (w : World) (K : Value → World → Prop) : Prop :=
  Calls prog 37 #[x_p0] w (Ret fun t_0 w =>
  Calls prog 37 #[y_p1] w (Ret fun t_1 w =>
  cd t_0 (
    cd t_1 (
      K (.int .i64 0) w) <|
    K (.int .i64 (-1)) w) <|
  cd t_1 (
    K (.int .i64 1) w) <|
  pvv prog (binOp .lss 9 x_p0 y_p1) w fun t_2 w =>
  cd t_2 (
    K (.int .i64 (-1)) w) <|
  pvv prog (binOp .gtr 9 x_p0 y_p1) w fun t_3 w =>
  cd t_3 (
    K (.int .i64 1) w) <|
  K (.int .i64 0) w))
theorem B27_eq (x_p0 y_p1 : Value) (w : World) (K : Value → World → Prop) : denFn prog Tryz.f27 T27 [x_p0, y_p1] w K = B27 x_p0 y_p1 w K := by kernel_rfl
theorem c27 {x_p0 y_p1 : Value} {w : World} {K : Value → World → Prop} (h : B27 x_p0 y_p1 w K) : Calls prog 27 #[x_p0, y_p1] w (Ret K) :=
  denFn_calls Tryz.func27 T27_ok (Eq.mpr (B27_eq x_p0 y_p1 w K) h)

-- 8 (*holdfast/session.Table).Live
def T8 : Ann := (.seq .none (.seq (.seq .none (.seq .none (.seq (.seq .none .none) .none))) (.seq .none .none)))
theorem T8_ok : chkFn prog Tryz.f8 T8 = true := by kernel_rfl
def B8 (t_p0 o_p1 now_p2 : Value) (w : World) (K : Value → World → Prop) : Prop :=
  efv prog (Instr.box 23 o_p1) w fun o_0 w =>
  efv prog (Instr.box 3 now_p2) w fun now_1 w =>
  ldv prog (Instr.loadAt 3 now_1) w fun t_2 w =>
  Calls prog 15 #[t_p0, t_2] w (Ret fun t_3 w =>
  pvv prog (oEq .neq 27 (.tmp 12) (.const (.int .i64 0)) t_3 (.int .i64 0)) w fun t_4 w =>
  cd t_4 (
    K (.tuple #[(.slice none 0 0), t_3]) w) <|
  pvv prog (Instr.makeFunc (.func 21) #[] #[o_0, now_1]) w fun t_5 w =>
  Calls prog 19 #[t_p0, t_5] w (Ret fun t_6 w =>
  K (.tuple #[t_6, (.int .i64 0)]) w))
theorem B8_eq (t_p0 o_p1 now_p2 : Value) (w : World) (K : Value → World → Prop) : denFn prog Tryz.f8 T8 [t_p0, o_p1, now_p2] w K = B8 t_p0 o_p1 now_p2 w K := by kernel_rfl
theorem c8 {t_p0 o_p1 now_p2 : Value} {w : World} {K : Value → World → Prop} (h : B8 t_p0 o_p1 now_p2 w K) : Calls prog 8 #[t_p0, o_p1, now_p2] w (Ret K) :=
  denFn_calls Tryz.func8 T8_ok (Eq.mpr (B8_eq t_p0 o_p1 now_p2 w K) h)

-- 11 (*holdfast/session.Table).EndAll
def T11 : Ann := (.seq .none (.seq (.seq .none (.seq (.seq .none .none) .none)) (.seq .none .none)))
theorem T11_ok : chkFn prog Tryz.f11 T11 = true := by kernel_rfl
def B11 (t_p0 o_p1 : Value) (w : World) (K : Value → World → Prop) : Prop :=
  efv prog (Instr.box 23 o_p1) w fun o_0 w =>
  pvv prog (oEq .eql 24 (.tmp 5) (.const (.pointer none)) t_p0 (.pointer none)) w fun t_1 w =>
  cd t_1 (
    K (.slice none 0 0) w) <|
  pvv prog (Instr.makeFunc (.func 23) #[] #[o_0]) w fun t_2 w =>
  Calls prog 19 #[t_p0, t_2] w (Ret fun t_3 w =>
  Calls prog 18 #[t_p0, t_3] w (Ret fun t_4 w =>
  K t_4 w))
theorem B11_eq (t_p0 o_p1 : Value) (w : World) (K : Value → World → Prop) : denFn prog Tryz.f11 T11 [t_p0, o_p1] w K = B11 t_p0 o_p1 w K := by kernel_rfl
theorem c11 {t_p0 o_p1 : Value} {w : World} {K : Value → World → Prop} (h : B11 t_p0 o_p1 w K) : Calls prog 11 #[t_p0, o_p1] w (Ret K) :=
  denFn_calls Tryz.func11 T11_ok (Eq.mpr (B11_eq t_p0 o_p1 w K) h)

-- 72 slices.medianAdjacentCmpFunc[holdfast/api.Row]
def T72 : Ann := (.seq .none (.seq .none .none))
theorem T72_ok : chkFn prog Tryz.f72 T72 = true := by kernel_rfl
def B72 (data_p0 a_p1 swaps_p2 cmp_p3 : Value) (w : World) (K : Value → World → Prop) : Prop :=
  pvv prog (binOp .sub 3 a_p1 (.int .i64 1)) w fun t_0 w =>
  pvv prog (binOp .add 3 a_p1 (.int .i64 1)) w fun t_1 w =>
  Calls prog 73 #[data_p0, t_0, a_p1, t_1, swaps_p2, cmp_p3] w (Ret fun t_2 w =>
  K t_2 w)
theorem B72_eq (data_p0 a_p1 swaps_p2 cmp_p3 : Value) (w : World) (K : Value → World → Prop) : denFn prog Tryz.f72 T72 [data_p0, a_p1, swaps_p2, cmp_p3] w K = B72 data_p0 a_p1 swaps_p2 cmp_p3 w K := by kernel_rfl
theorem c72 {data_p0 a_p1 swaps_p2 cmp_p3 : Value} {w : World} {K : Value → World → Prop} (h : B72 data_p0 a_p1 swaps_p2 cmp_p3 w K) : Calls prog 72 #[data_p0, a_p1, swaps_p2, cmp_p3] w (Ret K) :=
  denFn_calls Tryz.func72 T72_ok (Eq.mpr (B72_eq data_p0 a_p1 swaps_p2 cmp_p3 w K) h)

-- 97 slices.medianAdjacentOrdered[int]
def T97 : Ann := (.seq .none (.seq .none .none))
theorem T97_ok : chkFn prog Tryz.f97 T97 = true := by kernel_rfl
def B97 (data_p0 a_p1 swaps_p2 : Value) (w : World) (K : Value → World → Prop) : Prop :=
  pvv prog (binOp .sub 3 a_p1 (.int .i64 1)) w fun t_0 w =>
  pvv prog (binOp .add 3 a_p1 (.int .i64 1)) w fun t_1 w =>
  Calls prog 98 #[data_p0, t_0, a_p1, t_1, swaps_p2] w (Ret fun t_2 w =>
  K t_2 w)
theorem B97_eq (data_p0 a_p1 swaps_p2 : Value) (w : World) (K : Value → World → Prop) : denFn prog Tryz.f97 T97 [data_p0, a_p1, swaps_p2] w K = B97 data_p0 a_p1 swaps_p2 w K := by kernel_rfl
theorem c97 {data_p0 a_p1 swaps_p2 : Value} {w : World} {K : Value → World → Prop} (h : B97 data_p0 a_p1 swaps_p2 w K) : Calls prog 97 #[data_p0, a_p1, swaps_p2] w (Ret K) :=
  denFn_calls Tryz.func97 T97_ok (Eq.mpr (B97_eq data_p0 a_p1 swaps_p2 w K) h)

-- 103 math/bits.TrailingZeros
def T103 : Ann := (.seq .none (.seq (.seq (.seq .none .none) .none) (.seq .none .none)))
theorem T103_ok : chkFn prog Tryz.f103 T103 = true := by kernel_rfl
def B103 (x_p0 : Value) (w : World) (K : Value → World → Prop) : Prop :=
  cd (.bool false) (
    pvv prog (convert 74 95 x_p0) w fun t_0 w =>
    Calls prog 106 #[t_0] w (Ret fun t_1 w =>
    K t_1 w)) <|
  Calls prog 107 #[x_p0] w (Ret fun t_2 w =>
  K t_2 w)
theorem B103_eq (x_p0 : Value) (w : World) (K : Value → World → Prop) : denFn prog Tryz.f103 T103 [x_p0] w K = B103 x_p0 w K := by kernel_rfl
theorem c103 {x_p0 : Value} {w : World} {K : Value → World → Prop} (h : B103 x_p0 w K) : Calls prog 103 #[x_p0] w (Ret K) :=
  denFn_calls Tryz.func103 T103_ok (Eq.mpr (B103_eq x_p0 w K) h)

-- 36 math/bits.Len
def T36 : Ann := (.seq .none (.seq (.seq (.seq .none .none) .none) (.seq .none .none)))
theorem T36_ok : chkFn prog Tryz.f36 T36 = true := by kernel_rfl
def B36 (x_p0 : Value) (w : World) (K : Value → World → Prop) : Prop :=
  cd (.bool false) (
    pvv prog (convert 74 95 x_p0) w fun t_0 w =>
    Calls prog 59 #[t_0] w (Ret fun t_1 w =>
    K t_1 w)) <|
  Calls prog 60 #[x_p0] w (Ret fun t_2 w =>
  K t_2 w)
theorem B36_eq (x_p0 : Value) (w : World) (K : Value → World → Prop) : denFn prog Tryz.f36 T36 [x_p0] w K = B36 x_p0 w K := by kernel_rfl
theorem c36 {x_p0 : Value} {w : World} {K : Value → World → Prop} (h : B36 x_p0 w K) : Calls prog 36 #[x_p0] w (Ret K) :=
  denFn_calls Tryz.func36 T36_ok (Eq.mpr (B36_eq x_p0 w K) h)

-- 76 unicode/utf8.RuneStart
def T76 : Ann := (.seq .none (.seq .none .none))
theorem T76_ok : chkFn prog Tryz.f76 T76 = true := by kernel_rfl
def B76 (b_p0 : Value) (w : World) (K : Value → World → Prop) : Prop :=
  pvv prog (binOp .and 5 b_p0 (.int .u8 192)) w fun t_0 w =>
  pvv prog (oEq .neq 5 (.tmp 4) (.const (.int .u8 128)) t_0 (.int .u8 128)) w fun t_1 w =>
  K t_1 w
theorem B76_eq (b_p0 : Value) (w : World) (K : Value → World → Prop) : denFn prog Tryz.f76 T76 [b_p0] w K = B76 b_p0 w K := by kernel_rfl
theorem c76 {b_p0 : Value} {w : World} {K : Value → World → Prop} (h : B76 b_p0 w K) : Calls prog 76 #[b_p0] w (Ret K) :=
  denFn_calls Tryz.func76 T76_ok (Eq.mpr (B76_eq b_p0 w K) h)

-- 49 strings.TrimPrefix
def T49 : Ann := (.seq .none (.seq .none .none))
theorem T49_ok : chkFn prog Tryz.f49 T49 = true := by kernel_rfl
def B49 (s_p0 prefix_p1 : Value) (w : World) (K : Value → World → Prop) : Prop :=
  Calls prog 67 #[s_p0, prefix_p1] w (Ret fun t_0 w =>
  K t_0 w)
theorem B49_eq (s_p0 prefix_p1 : Value) (w : World) (K : Value → World → Prop) : denFn prog Tryz.f49 T49 [s_p0, prefix_p1] w K = B49 s_p0 prefix_p1 w K := by kernel_rfl
theorem c49 {s_p0 prefix_p1 : Value} {w : World} {K : Value → World → Prop} (h : B49 s_p0 prefix_p1 w K) : Calls prog 49 #[s_p0, prefix_p1] w (Ret K) :=
  denFn_calls Tryz.func49 T49_ok (Eq.mpr (B49_eq s_p0 prefix_p1 w K) h)

-- 50 strconv.FormatInt
def T50 : Ann := (.seq .none (.seq .none .none))
theorem T50_ok : chkFn prog Tryz.f50 T50 = true := by kernel_rfl
def B50 (i_p0 base_p1 : Value) (w : World) (K : Value → World → Prop) : Prop :=
  Calls prog 68 #[i_p0, base_p1] w (Ret fun t_0 w =>
  K t_0 w)
theorem B50_eq (i_p0 base_p1 : Value) (w : World) (K : Value → World → Prop) : denFn prog Tryz.f50 T50 [i_p0, base_p1] w K = B50 i_p0 base_p1 w K := by kernel_rfl
theorem c50 {i_p0 base_p1 : Value} {w : World} {K : Value → World → Prop} (h : B50 i_p0 base_p1 w K) : Calls prog 50 #[i_p0, base_p1] w (Ret K) :=
  denFn_calls Tryz.func50 T50_ok (Eq.mpr (B50_eq i_p0 base_p1 w K) h)

-- 99 cmp.isNaN[int]
def T99 : Ann := (.seq .none (.seq .none .none))
theorem T99_ok : chkFn prog Tryz.f99 T99 = true := by kernel_rfl
def B99 (x_p0 : Value) (w : World) (K : Value → World → Prop) : Prop :=
  pvv prog (oEq .neq 3 (.tmp 3) (.tmp 4) x_p0 x_p0) w fun t_0 w =>
  K t_0 w
theorem B99_eq (x_p0 : Value) (w : World) (K : Value → World → Prop) : denFn prog Tryz.f99 T99 [x_p0] w K = B99 x_p0 w K := by kernel_rfl
theorem c99 {x_p0 : Value} {w : World} {K : Value → World → Prop} (h : B99 x_p0 w K) : Calls prog 99 #[x_p0] w (Ret K) :=
  denFn_calls Tryz.func99 T99_ok (Eq.mpr (B99_eq x_p0 w K) h)


end Go.Proofs.YticbbnjhiiimcaaGreatDoor
