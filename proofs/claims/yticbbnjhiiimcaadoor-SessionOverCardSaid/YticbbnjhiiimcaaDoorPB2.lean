import Derived.Test.YticbbnjhiiimcaaDoorPI
set_option linter.all false
set_option maxRecDepth 100000
namespace Go.Proofs.YticbbnjhiiimcaaDoor
open Go Hold
-- 73 slices.partialInsertionSortOrdered[int]
def T73 : Ann := (.seq .none (.seq .none (.seq (.seq .none (.block (.loop 10889035741470030830827987437816582760384 [7, 8] (.seq (.seq .none (.seq .none .none)) (.meet 10889035741470030830827987437816582637248 [7] (.block (.seq (.block (.loop 34359607424 [7] (.seq (.seq (.draw [.op 0 .pure, .op 1 .pure, .op 2 .pure, .op 3 .pure, .op 4 .pure, .op 5 .pure, .op 6 .pure, .op 8 .pure, .op 9 .pure, .op 10 .pure, .op 11 .pure, .op 7 .load, .op 12 .load, .op 13 .eff, .op 14 .pure, .op 15 .pure]) (.seq .none .none)) (.block .none)))) (.seq (.seq .none (.seq (.seq .none .none) .none)) (.seq (.seq .none (.seq (.seq .none .none) .none)) (.seq (.draw [.op 0 .pure, .op 1 .pure, .op 2 .pure, .op 3 .pure, .op 4 .pure, .op 5 .pure, .op 6 .pure, .op 7 .pure, .op 8 .pure, .op 10 .pure, .op 11 .pure, .op 12 .pure, .op 9 .load, .op 13 .load, .op 14 .pure, .op 15 .eff, .op 16 .pure, .op 17 .eff]) (.meet 39614081256843938420620263936 [] (.seq .none (.seq (.seq .none (.block (.loop 39614081238685424723062424064 [9] (.seq (.seq .none (.seq .none .none)) (.seq (.block (.seq (.seq (.draw [.op 0 .pure, .op 1 .pure, .op 2 .pure, .op 4 .pure, .op 5 .pure, .op 6 .pure, .op 7 .pure, .op 3 .load, .op 8 .load, .op 9 .eff, .op 10 .pure]) (.seq .none .none)) (.draw [.op 0 .pure, .op 1 .pure, .op 2 .pure, .op 3 .pure, .op 4 .pure, .op 5 .pure, .op 6 .pure, .op 7 .pure, .op 8 .pure, .op 10 .pure, .op 11 .pure, .op 12 .pure, .op 9 .load, .op 13 .load, .op 14 .pure, .op 15 .eff, .op 16 .pure, .op 17 .eff]))) .none))))) .none)) (.seq .none (.seq (.seq .none (.block (.loop 10889035738934729630371528634823176356864 [10] (.seq (.seq .none (.seq .none .none)) (.seq (.block (.seq (.seq (.draw [.op 0 .pure, .op 1 .pure, .op 2 .pure, .op 4 .pure, .op 5 .pure, .op 6 .pure, .op 7 .pure, .op 3 .load, .op 8 .load, .op 9 .eff, .op 10 .pure]) (.seq .none .none)) (.draw [.op 0 .pure, .op 1 .pure, .op 2 .pure, .op 3 .pure, .op 4 .pure, .op 5 .pure, .op 6 .pure, .op 7 .pure, .op 8 .pure, .op 10 .pure, .op 11 .pure, .op 12 .pure, .op 9 .load, .op 13 .load, .op 14 .pure, .op 15 .eff, .op 16 .pure, .op 17 .eff]))) .none))))) .none)))))))) .none))))) (.seq .none .none))))
theorem T73_ok : chkFn prog Tryd.f73 T73 = true := by kernel_rfl
def B73 (data_p0 a_p1 b_p2 : Value) (w : World) (K : Value → World → Prop) : Prop :=
  pvv prog (binOp .add 3 a_p1 (.int .i64 1)) w fun t_0 w =>
  lp (fun σ w again_3 => pop σ fun i_1 σ => pop σ fun j_2 σ => fin σ <|
    pvv prog (binOp .lss 3 j_2 (.int .i64 5)) w fun t_4 w =>
    cd t_4 (
      jn (fun σ w => pop σ fun i_5 σ => fin σ <|
        pvv prog (binOp .add 3 j_2 (.int .i64 1)) w fun t_6 w =>
        again_3 [i_5, t_6] w) fun k_7 =>
      lp (fun σ w again_9 => pop σ fun i_8 σ => fin σ <|
        dr w fun w =>
        pvv prog (binOp .lss 3 i_8 b_p2) w fun t_10 w =>
        gate (some (t_10, true)) (fun K => K data_p0 w) w fun t_11 w =>
        gate (some (t_10, true)) (fun K => K i_8 w) w fun t_12 w =>
        gate (some (t_10, true)) (fun K => pvv prog (Instr.indexAt 65 t_11 t_12) w K) w fun t_13 w =>
        gate (some (t_10, true)) (fun K => K data_p0 w) w fun t_14 w =>
        gate (some (t_10, true)) (fun K => K i_8 w) w fun t_15 w =>
        gate (some (t_10, true)) (fun K => pvv prog (binOp .sub 3 t_15 (.int .i64 1)) w K) w fun t_16 w =>
        gate (some (t_10, true)) (fun K => pvv prog (Instr.indexAt 65 t_14 t_16) w K) w fun t_17 w =>
        bindS (vN (Instr.loadAt 3 t_13)) fun m_19 => gate (some (t_10, true)) (fun K => ldv prog (Instr.loadAt 3 t_13) w K) w fun t_18 w =>
        bindS (vN (Instr.loadAt 3 t_17)) fun m_21 => gate (some (t_10, true)) (fun K => ldv prog (Instr.loadAt 3 t_17) w K) w fun t_20 w =>
        gate (some (t_10, true)) (fun K => Calls prog 74 #[t_18, t_20] w (Ret fun s_106 w => K s_106 w)) w fun t_22 w =>
        gate (some (t_10, true)) (fun K => pvv prog (Op.unary .not t_22) w K) w fun t_23 w =>
        pv prog (oPick t_10 t_23 (.bool false)) w fun t_24 w =>
        cd t_24 (
          pvv prog (binOp .add 3 i_8 (.int .i64 1)) w fun t_25 w =>
          again_9 [t_25] w) <|
        pvv prog (oEq .eql 3 (.tmp 35) (.tmp 36) i_8 b_p2) w fun t_26 w =>
        cd t_26 (
          K (.bool true) w) <|
        pvv prog (binOp .sub 3 b_p2 a_p1) w fun t_27 w =>
        pvv prog (binOp .lss 3 t_27 (.int .i64 50)) w fun t_28 w =>
        cd t_28 (
          K (.bool false) w) <|
        dr w fun w =>
        pvv prog (binOp .sub 3 i_8 (.int .i64 1)) w fun t_29 w =>
        pvv prog (binOp .sub 3 i_8 (.int .i64 1)) w fun t_30 w =>
        pvv prog (Instr.indexAt 65 data_p0 t_30) w fun t_31 w =>
        pvv prog (Instr.indexAt 65 data_p0 i_8) w fun t_32 w =>
        bindS (vN (Instr.loadAt 3 t_31)) fun m_34 => ldv prog (Instr.loadAt 3 t_31) w fun t_33 w =>
        bindS (vN (Instr.loadAt 3 t_32)) fun m_36 => ldv prog (Instr.loadAt 3 t_32) w fun t_35 w =>
        pvv prog (Instr.indexAt 65 data_p0 i_8) w fun t_37 w =>
        efu prog (Instr.storeAt 3 t_37 t_33) w fun u_38 w =>
        pvv prog (Instr.indexAt 65 data_p0 t_29) w fun t_39 w =>
        efu prog (Instr.storeAt 3 t_39 t_35) w fun u_40 w =>
        jn (fun σ w => fin σ <|
          pvv prog (binOp .sub 3 b_p2 i_8) w fun t_41 w =>
          pvv prog (binOp .geq 3 t_41 (.int .i64 2)) w fun t_42 w =>
          cd t_42 (
            pvv prog (binOp .add 3 i_8 (.int .i64 1)) w fun t_43 w =>
            lp (fun σ w again_45 => pop σ fun j_44 σ => fin σ <|
              pvv prog (binOp .lss 3 j_44 b_p2) w fun t_46 w =>
              cd t_46 (
                dr w fun w =>
                pvv prog (Instr.indexAt 65 data_p0 j_44) w fun t_47 w =>
                pvv prog (binOp .sub 3 j_44 (.int .i64 1)) w fun t_48 w =>
                pvv prog (Instr.indexAt 65 data_p0 t_48) w fun t_49 w =>
                bindS (vN (Instr.loadAt 3 t_47)) fun m_51 => ldv prog (Instr.loadAt 3 t_47) w fun t_50 w =>
                bindS (vN (Instr.loadAt 3 t_49)) fun m_53 => ldv prog (Instr.loadAt 3 t_49) w fun t_52 w =>
                Calls prog 74 #[t_50, t_52] w (Ret fun t_54 w =>
                pvv prog (Op.unary .not t_54) w fun t_55 w =>
                cd t_55 (
                  k_7 [i_8] w) <|
                dr w fun w =>
                pvv prog (binOp .sub 3 j_44 (.int .i64 1)) w fun t_56 w =>
                pvv prog (binOp .sub 3 j_44 (.int .i64 1)) w fun t_57 w =>
                pvv prog (Instr.indexAt 65 data_p0 t_57) w fun t_58 w =>
                pvv prog (Instr.indexAt 65 data_p0 j_44) w fun t_59 w =>
                bindS (vN (Instr.loadAt 3 t_58)) fun m_61 => ldv prog (Instr.loadAt 3 t_58) w fun t_60 w =>
                bindS (vN (Instr.loadAt 3 t_59)) fun m_63 => ldv prog (Instr.loadAt 3 t_59) w fun t_62 w =>
                pvv prog (Instr.indexAt 65 data_p0 j_44) w fun t_64 w =>
                efu prog (Instr.storeAt 3 t_64 t_60) w fun u_65 w =>
                pvv prog (Instr.indexAt 65 data_p0 t_56) w fun t_66 w =>
                efu prog (Instr.storeAt 3 t_66 t_62) w fun u_67 w =>
                pvv prog (binOp .add 3 j_44 (.int .i64 1)) w fun t_68 w =>
                again_45 [t_68] w)) <|
              k_7 [i_8] w) [t_43] w) <|
          k_7 [i_8] w) fun k_72 =>
        pvv prog (binOp .sub 3 i_8 a_p1) w fun t_73 w =>
        pvv prog (binOp .geq 3 t_73 (.int .i64 2)) w fun t_74 w =>
        cd t_74 (
          pvv prog (binOp .sub 3 i_8 (.int .i64 1)) w fun t_75 w =>
          lp (fun σ w again_77 => pop σ fun j_76 σ => fin σ <|
            pvv prog (binOp .geq 3 j_76 (.int .i64 1)) w fun t_78 w =>
            cd t_78 (
              dr w fun w =>
              pvv prog (Instr.indexAt 65 data_p0 j_76) w fun t_79 w =>
              pvv prog (binOp .sub 3 j_76 (.int .i64 1)) w fun t_80 w =>
              pvv prog (Instr.indexAt 65 data_p0 t_80) w fun t_81 w =>
              bindS (vN (Instr.loadAt 3 t_79)) fun m_83 => ldv prog (Instr.loadAt 3 t_79) w fun t_82 w =>
              bindS (vN (Instr.loadAt 3 t_81)) fun m_85 => ldv prog (Instr.loadAt 3 t_81) w fun t_84 w =>
              Calls prog 74 #[t_82, t_84] w (Ret fun t_86 w =>
              pvv prog (Op.unary .not t_86) w fun t_87 w =>
              cd t_87 (
                k_72 [] w) <|
              dr w fun w =>
              pvv prog (binOp .sub 3 j_76 (.int .i64 1)) w fun t_88 w =>
              pvv prog (binOp .sub 3 j_76 (.int .i64 1)) w fun t_89 w =>
              pvv prog (Instr.indexAt 65 data_p0 t_89) w fun t_90 w =>
              pvv prog (Instr.indexAt 65 data_p0 j_76) w fun t_91 w =>
              bindS (vN (Instr.loadAt 3 t_90)) fun m_93 => ldv prog (Instr.loadAt 3 t_90) w fun t_92 w =>
              bindS (vN (Instr.loadAt 3 t_91)) fun m_95 => ldv prog (Instr.loadAt 3 t_91) w fun t_94 w =>
              pvv prog (Instr.indexAt 65 data_p0 j_76) w fun t_96 w =>
              efu prog (Instr.storeAt 3 t_96 t_92) w fun u_97 w =>
              pvv prog (Instr.indexAt 65 data_p0 t_88) w fun t_98 w =>
              efu prog (Instr.storeAt 3 t_98 t_94) w fun u_99 w =>
              pvv prog (binOp .sub 3 j_76 (.int .i64 1)) w fun t_100 w =>
              again_77 [t_100] w)) <|
            k_72 [] w) [t_75] w) <|
        k_72 [] w) [i_1] w) <|
    K (.bool false) w) [t_0, (.int .i64 0)] w
theorem B73_eq (data_p0 a_p1 b_p2 : Value) (w : World) (K : Value → World → Prop) : denFn prog Tryd.f73 T73 [data_p0, a_p1, b_p2] w K = B73 data_p0 a_p1 b_p2 w K := by kernel_rfl
theorem c73 {data_p0 a_p1 b_p2 : Value} {w : World} {K : Value → World → Prop} (h : B73 data_p0 a_p1 b_p2 w K) : Calls prog 73 #[data_p0, a_p1, b_p2] w (Ret K) :=
  denFn_calls Tryd.func73 T73_ok (Eq.mpr (B73_eq data_p0 a_p1 b_p2 w K) h)

-- 63 slices.pdqsortOrdered[int]
def T63 : Ann := (.seq .none (.seq .none (.block (.loop 21778071482940061661655974875633165532942 [1, 2, 3, 8, 9] (.block (.seq .none (.seq (.seq .none (.seq (.seq .none .none) .none)) (.seq (.seq .none (.seq (.seq .none .none) .none)) (.meet 4380866641928 [3] (.seq .none (.seq (.seq .none .none) .none)) (.seq .none (.meet 2305280059260278784 [11, 12] (.seq .none (.seq (.seq .none (.seq .none .none)) .none)) (.meet 9442427122730076733440 [] (.seq .none (.seq (.seq .none (.seq .none .none)) .none)) (.seq (.seq (.draw [.op 0 .pure, .op 1 .pure, .op 2 .pure, .op 3 .pure, .op 4 .pure, .op 5 .pure, .op 6 .pure, .op 8 .pure, .op 9 .pure, .op 10 .pure, .op 7 .load, .op 11 .load, .op 12 .eff, .op 13 .pure, .op 14 .pure]) (.seq (.seq .none (.seq .none .none)) .none)) (.seq .none (.seq .none (.seq .none (.seq .none (.seq .none (.seq (.seq .none (.seq .none .none)) (.seq .none (.seq .none .none)))))))))))))))))))))
theorem T63_ok : chkFn prog Tryd.f63 T63 = true := by kernel_rfl
def B63 (data_p0 a_p1 b_p2 limit_p3 : Value) (w : World) (K : Value → World → Prop) : Prop :=
  lp (fun σ w again_5 => pop σ fun a_0 σ => pop σ fun b_1 σ => pop σ fun limit_2 σ => pop σ fun wasBalanced_3 σ => pop σ fun wasPartitioned_4 σ => fin σ <|
    pvv prog (binOp .sub 3 b_1 a_0) w fun t_6 w =>
    pvv prog (binOp .leq 3 t_6 (.int .i64 12)) w fun t_7 w =>
    cd t_7 (
      Calls prog 68 #[data_p0, a_0, b_1] w (Ret fun t_8 w =>
      K (.tuple #[]) w)) <|
    pvv prog (oEq .eql 3 (.tmp 28) (.const (.int .i64 0)) limit_2 (.int .i64 0)) w fun t_9 w =>
    cd t_9 (
      Calls prog 69 #[data_p0, a_0, b_1] w (Ret fun t_10 w =>
      K (.tuple #[]) w)) <|
    jn (fun σ w => pop σ fun limit_11 σ => fin σ <|
      Calls prog 71 #[data_p0, a_0, b_1] w (Ret fun t_12 w =>
      pvv prog (Instr.extract t_12 0) w fun t_13 w =>
      pvv prog (Instr.extract t_12 1) w fun t_14 w =>
      jn (fun σ w => pop σ fun pivot_15 σ => pop σ fun hint_16 σ => fin σ <|
        jn (fun σ w => fin σ <|
          dr w fun w =>
          pvv prog (binOp .gtr 3 a_0 (.int .i64 0)) w fun t_17 w =>
          gate (some (t_17, true)) (fun K => K data_p0 w) w fun t_18 w =>
          gate (some (t_17, true)) (fun K => K a_0 w) w fun t_19 w =>
          gate (some (t_17, true)) (fun K => pvv prog (binOp .sub 3 t_19 (.int .i64 1)) w K) w fun t_20 w =>
          gate (some (t_17, true)) (fun K => pvv prog (Instr.indexAt 65 t_18 t_20) w K) w fun t_21 w =>
          gate (some (t_17, true)) (fun K => K data_p0 w) w fun t_22 w =>
          gate (some (t_17, true)) (fun K => K pivot_15 w) w fun t_23 w =>
          gate (some (t_17, true)) (fun K => pvv prog (Instr.indexAt 65 t_22 t_23) w K) w fun t_24 w =>
          bindS (vN (Instr.loadAt 3 t_21)) fun m_26 => gate (some (t_17, true)) (fun K => ldv prog (Instr.loadAt 3 t_21) w K) w fun t_25 w =>
          bindS (vN (Instr.loadAt 3 t_24)) fun m_28 => gate (some (t_17, true)) (fun K => ldv prog (Instr.loadAt 3 t_24) w K) w fun t_27 w =>
          gate (some (t_17, true)) (fun K => Calls prog 74 #[t_25, t_27] w (Ret fun s_46 w => K s_46 w)) w fun t_29 w =>
          gate (some (t_17, true)) (fun K => pvv prog (Op.unary .not t_29) w K) w fun t_30 w =>
          pv prog (oPick t_17 t_30 (.bool false)) w fun t_31 w =>
          cd t_31 (
            Calls prog 75 #[data_p0, a_0, b_1, pivot_15] w (Ret fun t_32 w =>
            again_5 [t_32, b_1, limit_11, wasBalanced_3, wasPartitioned_4] w)) <|
          Calls prog 76 #[data_p0, a_0, b_1, pivot_15] w (Ret fun t_33 w =>
          pvv prog (Instr.extract t_33 0) w fun t_34 w =>
          pvv prog (Instr.extract t_33 1) w fun t_35 w =>
          pvv prog (binOp .sub 3 t_34 a_0) w fun t_36 w =>
          pvv prog (binOp .sub 3 b_1 t_34) w fun t_37 w =>
          pvv prog (binOp .quo 3 t_6 (.int .i64 8)) w fun t_38 w =>
          pvv prog (binOp .lss 3 t_36 t_37) w fun t_39 w =>
          cd t_39 (
            pvv prog (binOp .geq 3 t_36 t_38) w fun t_40 w =>
            Calls prog 63 #[data_p0, a_0, t_34, limit_11] w (Ret fun t_41 w =>
            pvv prog (binOp .add 3 t_34 (.int .i64 1)) w fun t_42 w =>
            again_5 [t_42, b_1, limit_11, t_40, t_35] w)) <|
          pvv prog (binOp .geq 3 t_37 t_38) w fun t_43 w =>
          pvv prog (binOp .add 3 t_34 (.int .i64 1)) w fun t_44 w =>
          Calls prog 63 #[data_p0, t_44, b_1, limit_11] w (Ret fun t_45 w =>
          again_5 [a_0, t_34, limit_11, t_43, t_35] w))) fun k_47 =>
        gate (some (wasBalanced_3, true)) (fun K => K wasPartitioned_4 w) w fun t_48 w =>
        pv prog (oPick wasBalanced_3 t_48 (.bool false)) w fun t_49 w =>
        gate (some (t_49, true)) (fun K => K hint_16 w) w fun t_50 w =>
        gate (some (t_49, true)) (fun K => pvv prog (oEq .eql 100 (.tmp 66) (.const (.int .i64 1)) t_50 (.int .i64 1)) w K) w fun t_51 w =>
        pv prog (oPick t_49 t_51 (.bool false)) w fun t_52 w =>
        cd t_52 (
          Calls prog 73 #[data_p0, a_0, b_1] w (Ret fun t_53 w =>
          cd t_53 (
            K (.tuple #[]) w) <|
          k_47 [] w)) <|
        k_47 [] w) fun k_54 =>
      pvv prog (oEq .eql 100 (.tmp 49) (.const (.int .i64 2)) t_14 (.int .i64 2)) w fun t_55 w =>
      cd t_55 (
        Calls prog 72 #[data_p0, a_0, b_1] w (Ret fun t_56 w =>
        pvv prog (binOp .sub 3 b_1 (.int .i64 1)) w fun t_57 w =>
        pvv prog (binOp .sub 3 t_13 a_0) w fun t_58 w =>
        pvv prog (binOp .sub 3 t_57 t_58) w fun t_59 w =>
        k_54 [t_59, (.int .i64 1)] w)) <|
      k_54 [t_13, t_14] w)) fun k_60 =>
    pvv prog (Op.unary .not wasBalanced_3) w fun t_61 w =>
    cd t_61 (
      Calls prog 70 #[data_p0, a_0, b_1] w (Ret fun t_62 w =>
      pvv prog (binOp .sub 3 limit_2 (.int .i64 1)) w fun t_63 w =>
      k_60 [t_63] w)) <|
    k_60 [limit_2] w) [a_p1, b_p2, limit_p3, (.bool true), (.bool true)] w
theorem B63_eq (data_p0 a_p1 b_p2 limit_p3 : Value) (w : World) (K : Value → World → Prop) : denFn prog Tryd.f63 T63 [data_p0, a_p1, b_p2, limit_p3] w K = B63 data_p0 a_p1 b_p2 limit_p3 w K := by kernel_rfl
theorem c63 {data_p0 a_p1 b_p2 limit_p3 : Value} {w : World} {K : Value → World → Prop} (h : B63 data_p0 a_p1 b_p2 limit_p3 w K) : Calls prog 63 #[data_p0, a_p1, b_p2, limit_p3] w (Ret K) :=
  denFn_calls Tryd.func63 T63_ok (Eq.mpr (B63_eq data_p0 a_p1 b_p2 limit_p3 w K) h)

-- 12 (*holdfast/session.Table).Begin
def T12 : Ann := (.seq .none (.seq (.block (.seq .none (.seq (.seq .none .none) (.seq .none (.seq (.seq .none .none) .none))))) (.seq .none (.seq (.block (.seq .none (.seq (.seq .none .none) (.seq .none (.seq (.seq .none .none) (.seq .none (.seq (.seq .none .none) .none))))))) (.seq (.draw [.op 0 .pure, .op 1 .pure, .op 2 .pure, .op 5 .pure, .op 6 .pure, .op 3 .load, .op 4 .load, .op 7 .pure, .op 8 .eff, .op 9 .eff]) (.seq (.draw [.op 0 .pure, .op 1 .pure, .op 2 .pure, .op 4 .pure, .op 3 .load, .op 5 .load, .op 6 .load, .op 7 .eff]) (.seq .none (.seq .none (.seq .none .none)))))))))
theorem T12_ok : chkFn prog Tryd.f12 T12 = true := by kernel_rfl
def B12 (t_p0 o_p1 now_p2 : Value) (w : World) (K : Value → World → Prop) : Prop :=
  efv prog (Instr.box 23 o_p1) w fun o_0 w =>
  efv prog (Instr.alloc 25 true (.tuple #[])) w fun t_1 w =>
  pvv prog (oEq .eql 31 (.tmp 12) (.const (.pointer none)) t_p0 (.pointer none)) w fun t_2 w =>
  cd t_2 (
    pvv prog (Instr.build 25 #[]) w fun t_3 w =>
    efu prog (Instr.storeAt 25 t_1 t_3) w fun u_4 w =>
    ∃ r_5, (do loadVar 25 (← asAddr t_1)).run prog w = .ok r_5 w ∧ K (.tuple #[r_5, (.int .i64 1)]) w) <|
  pvv prog (Instr.fieldAt 23 o_0 0) w fun t_6 w =>
  ldv prog (Instr.loadAt 9 t_6) w fun t_7 w =>
  Calls prog 20 #[t_7] w (Ret fun t_8 w =>
  pvv prog (Op.unary .not t_8) w fun t_9 w =>
  gate (some (t_9, false)) (fun K => pvv prog (Instr.fieldAt 23 o_0 1) w K) w fun t_10 w =>
  gate (some (t_9, false)) (fun K => ldv prog (Instr.loadAt 9 t_10) w K) w fun t_11 w =>
  gate (some (t_9, false)) (fun K => Calls prog 20 #[t_11] w (Ret K)) w fun t_12 w =>
  gate (some (t_9, false)) (fun K => pvv prog (Op.unary .not t_12) w K) w fun t_13 w =>
  pv prog (oPick t_9 (.bool true) t_13) w fun t_14 w =>
  cd t_14 (
    pvv prog (Instr.build 25 #[]) w fun t_15 w =>
    efu prog (Instr.storeAt 25 t_1 t_15) w fun u_16 w =>
    ∃ r_17, (do loadVar 25 (← asAddr t_1)).run prog w = .ok r_17 w ∧ K (.tuple #[r_17, (.int .i64 8)]) w) <|
  ldv prog (Instr.loadAt 23 o_0) w fun t_18 w =>
  Calls prog 13 #[t_p0, t_18, now_p2] w (Ret fun t_19 w =>
  pvv prog (Instr.extract t_19 0) w fun t_20 w =>
  pvv prog (Instr.extract t_19 1) w fun t_21 w =>
  pvv prog (oEq .neq 34 (.tmp 35) (.const (.int .i64 0)) t_21 (.int .i64 0)) w fun t_22 w =>
  cd t_22 (
    pvv prog (Instr.build 25 #[]) w fun t_23 w =>
    efu prog (Instr.storeAt 25 t_1 t_23) w fun u_24 w =>
    ∃ r_25, (do loadVar 25 (← asAddr t_1)).run prog w = .ok r_25 w ∧ K (.tuple #[r_25, t_21]) w) <|
  pv prog (oNil t_p0) w fun t_26 w =>
  pvv prog (Instr.fieldAt 58 t_26 1) w fun t_27 w =>
  ldv prog (Instr.loadAt 3 t_27) w fun t_28 w =>
  pvv prog (binOp .gtr 3 t_28 (.int .i64 1099511627776)) w fun t_29 w =>
  cd t_29 (
    pvv prog (Instr.build 25 #[]) w fun t_30 w =>
    efu prog (Instr.storeAt 25 t_1 t_30) w fun u_31 w =>
    ∃ r_32, (do loadVar 25 (← asAddr t_1)).run prog w = .ok r_32 w ∧ K (.tuple #[r_32, (.int .i64 7)]) w) <|
  pv prog (oBi .len #[37] 3 #[false] #[t_20]) w fun t_33 w =>
  pvv prog (binOp .geq 3 t_33 (.int .i64 3)) w fun t_34 w =>
  cd t_34 (
    pvv prog (Instr.build 25 #[]) w fun t_35 w =>
    efu prog (Instr.storeAt 25 t_1 t_35) w fun u_36 w =>
    ∃ r_37, (do loadVar 25 (← asAddr t_1)).run prog w = .ok r_37 w ∧ K (.tuple #[r_37, (.int .i64 22)]) w) <|
  dr w fun w =>
  pv prog (oNil t_p0) w fun t_38 w =>
  pvv prog (Instr.fieldAt 58 t_38 1) w fun t_39 w =>
  bindS (vN (Instr.loadAt 3 t_39)) fun m_41 => ldv prog (Instr.loadAt 3 t_39) w fun t_40 w =>
  bindS (vN (Instr.loadAt 23 o_0)) fun m_43 => ldv prog (Instr.loadAt 23 o_0) w fun t_42 w =>
  pvv prog (Instr.build 25 #[(0, t_40), (1, t_42), (2, now_p2), (3, now_p2)]) w fun t_44 w =>
  efv prog (Instr.alloc 25 true (.tuple #[])) w fun s_45 w => stay prog none m_43 t_42 w <| stay prog none m_41 t_40 w <| 
  efu prog (Instr.storeAt 25 s_45 t_44) w fun u_46 w =>
  dr w fun w =>
  pv prog (oNil t_p0) w fun t_47 w =>
  pvv prog (Instr.fieldAt 58 t_47 2) w fun t_48 w =>
  pvv prog (Instr.fieldAt 25 s_45 0) w fun t_49 w =>
  bindS (vN (Instr.loadAt 54 t_48)) fun m_51 => ldv prog (Instr.loadAt 54 t_48) w fun t_50 w =>
  bindS (vN (Instr.loadAt 3 t_49)) fun m_53 => ldv prog (Instr.loadAt 3 t_49) w fun t_52 w =>
  bindS (vN (Instr.loadAt 25 s_45)) fun m_55 => ldv prog (Instr.loadAt 25 s_45) w fun t_54 w =>
  efu prog (Instr.mapUpdate 54 t_50 t_52 t_54) w fun u_56 w =>
  pv prog (oNil t_p0) w fun t_57 w =>
  pvv prog (Instr.fieldAt 58 t_57 1) w fun t_58 w =>
  ldv prog (Instr.loadAt 3 t_58) w fun t_59 w =>
  pvv prog (binOp .add 3 t_59 (.int .i64 1)) w fun t_60 w =>
  pv prog (oNil t_p0) w fun t_61 w =>
  pvv prog (Instr.fieldAt 58 t_61 1) w fun t_62 w =>
  efu prog (Instr.storeAt 3 t_62 t_60) w fun u_63 w =>
  pv prog (oNil t_p0) w fun t_64 w =>
  pvv prog (Instr.fieldAt 58 t_64 0) w fun t_65 w =>
  pvv prog (Instr.fieldAt 56 t_65 0) w fun t_66 w =>
  efu prog (Instr.storeAt 3 t_66 now_p2) w fun u_67 w =>
  ldv prog (Instr.loadAt 25 s_45) w fun t_68 w =>
  efu prog (Instr.storeAt 25 t_1 t_68) w fun u_69 w =>
  ∃ r_70, (do loadVar 25 (← asAddr t_1)).run prog w = .ok r_70 w ∧ K (.tuple #[r_70, (.int .i64 0)]) w))
theorem B12_eq (t_p0 o_p1 now_p2 : Value) (w : World) (K : Value → World → Prop) : denFn prog Tryd.f12 T12 [t_p0, o_p1, now_p2] w K = B12 t_p0 o_p1 now_p2 w K := by kernel_rfl
theorem c12 {t_p0 o_p1 now_p2 : Value} {w : World} {K : Value → World → Prop} (h : B12 t_p0 o_p1 now_p2 w K) : Calls prog 12 #[t_p0, o_p1, now_p2] w (Ret K) :=
  denFn_calls Tryd.func12 T12_ok (Eq.mpr (B12_eq t_p0 o_p1 now_p2 w K) h)

-- 70 slices.breakPatternsOrdered[int]
def T70 : Ann := (.seq .none (.seq .none (.seq (.seq .none (.seq .none (.seq .none (.block (.loop 36893488147351995904 [9] (.seq (.seq .none (.seq .none .none)) (.seq (.block (.seq .none (.meet 138538465100800 [10] (.seq .none (.seq .none .none)) (.draw [.op 0 .pure, .op 1 .pure, .op 2 .pure, .op 3 .pure, .op 4 .pure, .op 5 .pure, .op 6 .pure, .op 7 .pure, .op 8 .pure, .op 9 .pure, .op 10 .pure, .op 12 .pure, .op 13 .pure, .op 14 .pure, .op 11 .load, .op 15 .load, .op 16 .pure, .op 17 .eff, .op 18 .pure, .op 19 .eff])))) .none))))))) .none)))
theorem T70_ok : chkFn prog Tryd.f70 T70 = true := by kernel_rfl
def B70 (data_p0 a_p1 b_p2 : Value) (w : World) (K : Value → World → Prop) : Prop :=
  pvv prog (binOp .sub 3 b_p2 a_p1) w fun t_0 w =>
  pvv prog (binOp .geq 3 t_0 (.int .i64 8)) w fun t_1 w =>
  cd t_1 (
    pvv prog (convert 3 120 t_0) w fun t_2 w =>
    efv prog (Instr.alloc 120 true (.tuple #[])) w fun random_3 w =>
    efu prog (Instr.storeAt 120 random_3 t_2) w fun u_4 w =>
    Calls prog 84 #[t_0] w (Ret fun t_5 w =>
    pvv prog (binOp .quo 3 t_0 (.int .i64 4)) w fun t_6 w =>
    pvv prog (binOp .mul 3 t_6 (.int .i64 2)) w fun t_7 w =>
    pvv prog (binOp .add 3 a_p1 t_7) w fun t_8 w =>
    pvv prog (binOp .sub 3 t_8 (.int .i64 1)) w fun t_9 w =>
    lp (fun σ w again_11 => pop σ fun idx_10 σ => fin σ <|
      pvv prog (binOp .quo 3 t_0 (.int .i64 4)) w fun t_12 w =>
      pvv prog (binOp .mul 3 t_12 (.int .i64 2)) w fun t_13 w =>
      pvv prog (binOp .add 3 a_p1 t_13) w fun t_14 w =>
      pvv prog (binOp .add 3 t_14 (.int .i64 1)) w fun t_15 w =>
      pvv prog (binOp .leq 3 idx_10 t_15) w fun t_16 w =>
      cd t_16 (
        Calls prog 85 #[random_3] w (Ret fun t_17 w =>
        pvv prog (binOp .sub 97 t_5 (.int .u64 1)) w fun t_18 w =>
        pvv prog (binOp .and 97 t_17 t_18) w fun t_19 w =>
        pvv prog (convert 97 3 t_19) w fun t_20 w =>
        jn (fun σ w => pop σ fun other_21 σ => fin σ <|
          dr w fun w =>
          pvv prog (binOp .add 3 a_p1 other_21) w fun t_22 w =>
          pvv prog (binOp .add 3 a_p1 other_21) w fun t_23 w =>
          pvv prog (Instr.indexAt 65 data_p0 t_23) w fun t_24 w =>
          pvv prog (Instr.indexAt 65 data_p0 idx_10) w fun t_25 w =>
          bindS (vN (Instr.loadAt 3 t_24)) fun m_27 => ldv prog (Instr.loadAt 3 t_24) w fun t_26 w =>
          bindS (vN (Instr.loadAt 3 t_25)) fun m_29 => ldv prog (Instr.loadAt 3 t_25) w fun t_28 w =>
          pvv prog (Instr.indexAt 65 data_p0 idx_10) w fun t_30 w =>
          efu prog (Instr.storeAt 3 t_30 t_26) w fun u_31 w =>
          pvv prog (Instr.indexAt 65 data_p0 t_22) w fun t_32 w =>
          efu prog (Instr.storeAt 3 t_32 t_28) w fun u_33 w =>
          pvv prog (binOp .add 3 idx_10 (.int .i64 1)) w fun t_34 w =>
          again_11 [t_34] w) fun k_37 =>
        pvv prog (binOp .geq 3 t_20 t_0) w fun t_38 w =>
        cd t_38 (
          pvv prog (binOp .sub 3 t_20 t_0) w fun t_39 w =>
          k_37 [t_39] w) <|
        k_37 [t_20] w)) <|
      K (.tuple #[]) w) [t_9] w)) <|
  K (.tuple #[]) w
theorem B70_eq (data_p0 a_p1 b_p2 : Value) (w : World) (K : Value → World → Prop) : denFn prog Tryd.f70 T70 [data_p0, a_p1, b_p2] w K = B70 data_p0 a_p1 b_p2 w K := by kernel_rfl
theorem c70 {data_p0 a_p1 b_p2 : Value} {w : World} {K : Value → World → Prop} (h : B70 data_p0 a_p1 b_p2 w K) : Calls prog 70 #[data_p0, a_p1, b_p2] w (Ret K) :=
  denFn_calls Tryd.func70 T70_ok (Eq.mpr (B70_eq data_p0 a_p1 b_p2 w K) h)

-- 8 holdfast/holdfastlaw11.live
def T8 : Ann := (.seq .none (.seq .none (.seq (.seq .none (.seq (.seq .none .none) .none)) (.seq .none (.seq .none (.seq .none (.seq .none .none)))))))
theorem T8_ok : chkFn prog Tryd.f8 T8 = true := by kernel_rfl
def B8 (w : World) (K : Value → World → Prop) : Prop :=
  Calls prog 11 #[] w (Ret fun t_0 w =>
  pvv prog (oEq .eql 31 (.tmp 9) (.const (.pointer none)) t_0 (.pointer none)) w fun t_1 w =>
  cd t_1 (
    K (.bool false) w) <|
  pvv prog (Instr.build 23 #[(0, (.string ⟨#[116]⟩)), (1, (.string ⟨#[117]⟩))]) w fun t_2 w =>
  Calls prog 12 #[t_0, t_2, (.int .i64 0)] w (Ret fun t_3 w =>
  pvv prog (Instr.extract t_3 0) w fun t_4 w =>
  pvv prog (Instr.extract t_3 1) w fun t_5 w =>
  efv prog (Instr.alloc 25 true (.tuple #[])) w fun s_6 w =>
  efu prog (Instr.storeAt 25 s_6 t_4) w fun u_7 w =>
  Calls prog 14 #[t_0, (.int .i64 1), (.int .i64 199)] w (Ret fun t_8 w =>
  pvv prog (Instr.extract t_8 0) w fun t_9 w =>
  pvv prog (Instr.extract t_8 1) w fun t_10 w =>
  efv prog (Instr.alloc 25 true (.tuple #[])) w fun x_11 w =>
  efu prog (Instr.storeAt 25 x_11 t_9) w fun u_12 w =>
  Calls prog 14 #[t_0, (.int .i64 1), (.int .i64 399)] w (Ret fun t_13 w =>
  pvv prog (Instr.extract t_13 0) w fun t_14 w =>
  pvv prog (Instr.extract t_13 1) w fun t_15 w =>
  efv prog (Instr.alloc 25 true (.tuple #[])) w fun t_16 w =>
  efu prog (Instr.storeAt 25 t_16 t_14) w fun u_17 w =>
  pvv prog (oEq .eql 34 (.tmp 27) (.const (.int .i64 0)) t_5 (.int .i64 0)) w fun t_18 w =>
  gate (some (t_18, true)) (fun K => pvv prog (Instr.fieldAt 25 s_6 0) w K) w fun t_19 w =>
  gate (some (t_18, true)) (fun K => ldv prog (Instr.loadAt 3 t_19) w K) w fun t_20 w =>
  gate (some (t_18, true)) (fun K => pvv prog (oEq .eql 3 (.tmp 31) (.const (.int .i64 1)) t_20 (.int .i64 1)) w K) w fun t_21 w =>
  pv prog (oPick t_18 t_21 (.bool false)) w fun t_22 w =>
  gate (some (t_22, true)) (fun K => K t_10 w) w fun t_23 w =>
  gate (some (t_22, true)) (fun K => pvv prog (oEq .eql 34 (.tmp 35) (.const (.int .i64 0)) t_23 (.int .i64 0)) w K) w fun t_24 w =>
  pv prog (oPick t_22 t_24 (.bool false)) w fun t_25 w =>
  gate (some (t_25, true)) (fun K => pvv prog (Instr.fieldAt 25 x_11 3) w K) w fun t_26 w =>
  gate (some (t_25, true)) (fun K => ldv prog (Instr.loadAt 3 t_26) w K) w fun t_27 w =>
  gate (some (t_25, true)) (fun K => pvv prog (oEq .eql 3 (.tmp 40) (.const (.int .i64 199)) t_27 (.int .i64 199)) w K) w fun t_28 w =>
  pv prog (oPick t_25 t_28 (.bool false)) w fun t_29 w =>
  gate (some (t_29, true)) (fun K => K t_15 w) w fun t_30 w =>
  gate (some (t_29, true)) (fun K => pvv prog (oEq .eql 34 (.tmp 44) (.const (.int .i64 12)) t_30 (.int .i64 12)) w K) w fun t_31 w =>
  pv prog (oPick t_29 t_31 (.bool false)) w fun t_32 w =>
  gate (some (t_32, true)) (fun K => ldv prog (Instr.loadAt 25 x_11) w K) w fun t_33 w =>
  gate (some (t_32, true)) (fun K => Calls prog 9 #[t_33] w (Ret K)) w fun t_34 w =>
  gate (some (t_32, true)) (fun K => pvv prog (oEq .eql 3 (.tmp 49) (.const (.int .i64 399)) t_34 (.int .i64 399)) w K) w fun t_35 w =>
  pv prog (oPick t_32 t_35 (.bool false)) w fun t_36 w =>
  K t_36 w))))
theorem B8_eq (w : World) (K : Value → World → Prop) : denFn prog Tryd.f8 T8 [] w K = B8  w K := by kernel_rfl
theorem c8 {w : World} {K : Value → World → Prop} (h : B8  w K) : Calls prog 8 #[] w (Ret K) :=
  denFn_calls Tryd.func8 T8_ok (Eq.mpr (B8_eq  w K) h)

-- 3 holdfast/holdfastlaw11.SessionUntils
def T3 : Ann := (.seq .none (.seq (.seq .none (.seq (.seq .none .none) .none)) (.seq .none (.seq .none .none))))
theorem T3_ok : chkFn prog Tryd.f3 T3 = true := by kernel_rfl
def B3 (s_p0 : Value) (w : World) (K : Value → World → Prop) : Prop :=
  efv prog (Instr.box 25 s_p0) w fun s_0 w =>
  pvv prog (Instr.fieldAt 25 s_0 2) w fun t_1 w =>
  ldv prog (Instr.loadAt 3 t_1) w fun t_2 w =>
  pvv prog (binOp .lss 3 t_2 (.int .i64 0)) w fun t_3 w =>
  gate (some (t_3, false)) (fun K => pvv prog (Instr.fieldAt 25 s_0 2) w K) w fun t_4 w =>
  gate (some (t_3, false)) (fun K => ldv prog (Instr.loadAt 3 t_4) w K) w fun t_5 w =>
  gate (some (t_3, false)) (fun K => pvv prog (binOp .gtr 3 t_5 (.int .i64 1099511627776)) w K) w fun t_6 w =>
  pv prog (oPick t_3 (.bool true) t_6) w fun t_7 w =>
  gate (some (t_7, false)) (fun K => pvv prog (Instr.fieldAt 25 s_0 3) w K) w fun t_8 w =>
  gate (some (t_7, false)) (fun K => ldv prog (Instr.loadAt 3 t_8) w K) w fun t_9 w =>
  gate (some (t_7, false)) (fun K => pvv prog (binOp .lss 3 t_9 (.int .i64 0)) w K) w fun t_10 w =>
  pv prog (oPick t_7 (.bool true) t_10) w fun t_11 w =>
  gate (some (t_11, false)) (fun K => pvv prog (Instr.fieldAt 25 s_0 3) w K) w fun t_12 w =>
  gate (some (t_11, false)) (fun K => ldv prog (Instr.loadAt 3 t_12) w K) w fun t_13 w =>
  gate (some (t_11, false)) (fun K => pvv prog (binOp .gtr 3 t_13 (.int .i64 1099511627776)) w K) w fun t_14 w =>
  pv prog (oPick t_11 (.bool true) t_14) w fun t_15 w =>
  cd t_15 (
    Calls prog 8 #[] w (Ret fun t_16 w =>
    K t_16 w)) <|
  ldv prog (Instr.loadAt 25 s_0) w fun t_17 w =>
  Calls prog 9 #[t_17] w (Ret fun t_18 w =>
  Calls prog 8 #[] w (Ret fun t_19 w =>
  gate (some (t_19, true)) (fun K => K t_18 w) w fun t_20 w =>
  gate (some (t_19, true)) (fun K => ldv prog (Instr.loadAt 25 s_0) w K) w fun t_21 w =>
  gate (some (t_19, true)) (fun K => Calls prog 10 #[t_21] w (Ret K)) w fun t_22 w =>
  gate (some (t_19, true)) (fun K => pvv prog (oEq .eql 3 (.tmp 27) (.tmp 29) t_20 t_22) w K) w fun t_23 w =>
  pv prog (oPick t_19 t_23 (.bool false)) w fun t_24 w =>
  gate (some (t_24, true)) (fun K => K t_18 w) w fun t_25 w =>
  gate (some (t_24, true)) (fun K => pvv prog (binOp .leq 3 t_25 (.int .i64 1099511627776)) w K) w fun t_26 w =>
  pv prog (oPick t_24 t_26 (.bool false)) w fun t_27 w =>
  K t_27 w))
theorem B3_eq (s_p0 : Value) (w : World) (K : Value → World → Prop) : denFn prog Tryd.f3 T3 [s_p0] w K = B3 s_p0 w K := by kernel_rfl
theorem c3 {s_p0 : Value} {w : World} {K : Value → World → Prop} (h : B3 s_p0 w K) : Calls prog 3 #[s_p0] w (Ret K) :=
  denFn_calls Tryd.func3 T3_ok (Eq.mpr (B3_eq s_p0 w K) h)

-- 26 (*holdfast/holdfastref11.Table).Touch
def T26 : Ann := (.seq .none (.seq .none (.seq (.seq .none (.seq (.seq .none .none) .none)) (.seq .none (.seq .none (.seq .none (.seq .none (.seq .none (.seq .none (.seq .none (.seq .none .none)))))))))))
theorem T26_ok : chkFn prog Tryd.f26 T26 = true := by kernel_rfl
def B26 (t_p0 id_p1 now_p2 : Value) (w : World) (K : Value → World → Prop) : Prop :=
  efv prog (Instr.alloc 25 true (.tuple #[])) w fun t_0 w =>
  Calls prog 27 #[t_p0, id_p1, now_p2] w (Ret fun t_1 w =>
  pvv prog (Instr.extract t_1 0) w fun t_2 w =>
  pvv prog (Instr.extract t_1 1) w fun t_3 w =>
  efv prog (Instr.alloc 25 true (.tuple #[])) w fun s_4 w =>
  efu prog (Instr.storeAt 25 s_4 t_2) w fun u_5 w =>
  pvv prog (oEq .neq 34 (.tmp 20) (.const (.int .i64 0)) t_3 (.int .i64 0)) w fun t_6 w =>
  cd t_6 (
    pvv prog (Instr.build 25 #[]) w fun t_7 w =>
    efu prog (Instr.storeAt 25 t_0 t_7) w fun u_8 w =>
    ∃ r_9, (do loadVar 25 (← asAddr t_0)).run prog w = .ok r_9 w ∧ K (.tuple #[r_9, t_3]) w) <|
  pvv prog (Instr.fieldAt 25 s_4 3) w fun t_10 w =>
  efu prog (Instr.storeAt 3 t_10 now_p2) w fun u_11 w =>
  Calls prog 43 #[t_p0, id_p1] w (Ret fun t_12 w =>
  pvv prog (Instr.extract t_12 0) w fun t_13 w =>
  pvv prog (Instr.extract t_12 1) w fun t_14 w =>
  pv prog (oNil t_p0) w fun t_15 w =>
  pvv prog (Instr.fieldAt 63 t_15 2) w fun t_16 w =>
  ldv prog (Instr.loadAt 37 t_16) w fun t_17 w =>
  ef prog (oBi .append #[37, 37] 37 #[false, false] #[(.slice none 0 0), t_17]) w fun t_18 w =>
  ldv prog (Instr.loadAt 25 s_4) w fun t_19 w =>
  pvv prog (Instr.indexAt 37 t_18 t_13) w fun t_20 w =>
  efu prog (Instr.storeAt 25 t_20 t_19) w fun u_21 w =>
  pv prog (oNil t_p0) w fun t_22 w =>
  pvv prog (Instr.fieldAt 63 t_22 2) w fun t_23 w =>
  efu prog (Instr.storeAt 37 t_23 t_18) w fun u_24 w =>
  pv prog (oNil t_p0) w fun t_25 w =>
  pvv prog (Instr.fieldAt 63 t_25 1) w fun t_26 w =>
  efu prog (Instr.storeAt 3 t_26 now_p2) w fun u_27 w =>
  ldv prog (Instr.loadAt 25 s_4) w fun t_28 w =>
  efu prog (Instr.storeAt 25 t_0 t_28) w fun u_29 w =>
  ∃ r_30, (do loadVar 25 (← asAddr t_0)).run prog w = .ok r_30 w ∧ K (.tuple #[r_30, (.int .i64 0)]) w))
theorem B26_eq (t_p0 id_p1 now_p2 : Value) (w : World) (K : Value → World → Prop) : denFn prog Tryd.f26 T26 [t_p0, id_p1, now_p2] w K = B26 t_p0 id_p1 now_p2 w K := by kernel_rfl
theorem c26 {t_p0 id_p1 now_p2 : Value} {w : World} {K : Value → World → Prop} (h : B26 t_p0 id_p1 now_p2 w K) : Calls prog 26 #[t_p0, id_p1, now_p2] w (Ret K) :=
  denFn_calls Tryd.func26 T26_ok (Eq.mpr (B26_eq t_p0 id_p1 now_p2 w K) h)

-- 43 (*holdfast/holdfastref11.Table).find
def T43 : Ann := (.seq .none (.seq (.seq .none (.seq (.seq .none .none) .none)) (.seq (.seq .none (.block (.loop 137438822512 [6] (.seq (.seq .none (.seq .none .none)) (.seq (.block (.seq .none (.seq (.seq .none .none) .none))) .none))))) (.seq .none .none))))
theorem T43_ok : chkFn prog Tryd.f43 T43 = true := by kernel_rfl
def B43 (t_p0 id_p1 : Value) (w : World) (K : Value → World → Prop) : Prop :=
  pvv prog (binOp .lss 3 id_p1 (.int .i64 1)) w fun t_0 w =>
  gate (some (t_0, false)) (fun K => K id_p1 w) w fun t_1 w =>
  gate (some (t_0, false)) (fun K => K t_p0 w) w fun t_2 w =>
  gate (some (t_0, false)) (fun K => pv prog (oNil t_2) w K) w fun t_3 w =>
  gate (some (t_0, false)) (fun K => pvv prog (Instr.fieldAt 63 t_3 0) w K) w fun t_4 w =>
  gate (some (t_0, false)) (fun K => ldv prog (Instr.loadAt 3 t_4) w K) w fun t_5 w =>
  gate (some (t_0, false)) (fun K => pvv prog (binOp .geq 3 t_1 t_5) w K) w fun t_6 w =>
  pv prog (oPick t_0 (.bool true) t_6) w fun t_7 w =>
  cd t_7 (
    K (.tuple #[(.int .i64 (-1)), (.int .i64 4)]) w) <|
  lp (fun σ w again_9 => pop σ fun i_8 σ => fin σ <|
    pv prog (oNil t_p0) w fun t_10 w =>
    pvv prog (Instr.fieldAt 63 t_10 2) w fun t_11 w =>
    ldv prog (Instr.loadAt 37 t_11) w fun t_12 w =>
    pv prog (oBi .len #[37] 3 #[false] #[t_12]) w fun t_13 w =>
    pvv prog (binOp .lss 3 i_8 t_13) w fun t_14 w =>
    cd t_14 (
      pv prog (oNil t_p0) w fun t_15 w =>
      pvv prog (Instr.fieldAt 63 t_15 2) w fun t_16 w =>
      ldv prog (Instr.loadAt 37 t_16) w fun t_17 w =>
      pvv prog (Instr.indexAt 37 t_17 i_8) w fun t_18 w =>
      pvv prog (Instr.fieldAt 25 t_18 0) w fun t_19 w =>
      ldv prog (Instr.loadAt 3 t_19) w fun t_20 w =>
      pvv prog (oEq .eql 3 (.tmp 33) (.tmp 34) t_20 id_p1) w fun t_21 w =>
      cd t_21 (
        K (.tuple #[i_8, (.int .i64 0)]) w) <|
      pvv prog (binOp .add 3 i_8 (.int .i64 1)) w fun t_22 w =>
      again_9 [t_22] w) <|
    K (.tuple #[(.int .i64 (-1)), (.int .i64 12)]) w) [(.int .i64 0)] w
theorem B43_eq (t_p0 id_p1 : Value) (w : World) (K : Value → World → Prop) : denFn prog Tryd.f43 T43 [t_p0, id_p1] w K = B43 t_p0 id_p1 w K := by kernel_rfl
theorem c43 {t_p0 id_p1 : Value} {w : World} {K : Value → World → Prop} (h : B43 t_p0 id_p1 w K) : Calls prog 43 #[t_p0, id_p1] w (Ret K) :=
  denFn_calls Tryd.func43 T43_ok (Eq.mpr (B43_eq t_p0 id_p1 w K) h)

-- 77 math/bits.Len32
def T77 : Ann := (.seq .none (.meet 125 [0, 2] (.seq .none (.seq (.seq .none .none) .none)) (.meet 8069 [0, 2] (.seq .none (.seq (.seq .none .none) .none)) (.seq .none .none))))
theorem T77_ok : chkFn prog Tryd.f77 T77 = true := by kernel_rfl
def B77 (x_p0 : Value) (w : World) (K : Value → World → Prop) : Prop :=
  jn (fun σ w => pop σ fun x_0 σ => pop σ fun n_1 σ => fin σ <|
    jn (fun σ w => pop σ fun x_2 σ => pop σ fun n_3 σ => fin σ <|
      pvv prog (convert 109 5 x_2) w fun t_4 w =>
      pvv prog (Instr.index 9 (.string ⟨#[0, 1, 2, 2, 3, 3, 3, 3, 4, 4, 4, 4, 4, 4, 4, 4, 5, 5, 5, 5, 5, 5, 5, 5, 5, 5, 5, 5, 5, 5, 5, 5, 6, 6, 6, 6, 6, 6, 6, 6, 6, 6, 6, 6, 6, 6, 6, 6, 6, 6, 6, 6, 6, 6, 6, 6, 6, 6, 6, 6, 6, 6, 6, 6, 7, 7, 7, 7, 7, 7, 7, 7, 7, 7, 7, 7, 7, 7, 7, 7, 7, 7, 7, 7, 7, 7, 7, 7, 7, 7, 7, 7, 7, 7, 7, 7, 7, 7, 7, 7, 7, 7, 7, 7, 7, 7, 7, 7, 7, 7, 7, 7, 7, 7, 7, 7, 7, 7, 7, 7, 7, 7, 7, 7, 7, 7, 7, 7, 8, 8, 8, 8, 8, 8, 8, 8, 8, 8, 8, 8, 8, 8, 8, 8, 8, 8, 8, 8, 8, 8, 8, 8, 8, 8, 8, 8, 8, 8, 8, 8, 8, 8, 8, 8, 8, 8, 8, 8, 8, 8, 8, 8, 8, 8, 8, 8, 8, 8, 8, 8, 8, 8, 8, 8, 8, 8, 8, 8, 8, 8, 8, 8, 8, 8, 8, 8, 8, 8, 8, 8, 8, 8, 8, 8, 8, 8, 8, 8, 8, 8, 8, 8, 8, 8, 8, 8, 8, 8, 8, 8, 8, 8, 8, 8, 8, 8, 8, 8, 8, 8, 8, 8, 8, 8, 8, 8, 8, 8, 8, 8, 8, 8, 8, 8, 8, 8, 8, 8, 8, 8, 8, 8, 8, 8, 8, 8]⟩) t_4) w fun t_5 w =>
      pvv prog (convert 5 3 t_5) w fun t_6 w =>
      pvv prog (binOp .add 3 n_3 t_6) w fun t_7 w =>
      K t_7 w) fun k_8 =>
    pvv prog (binOp .geq 109 x_0 (.int .u32 256)) w fun t_9 w =>
    cd t_9 (
      pvv prog (binOp .shr 109 x_0 (.int .u64 8)) w fun t_10 w =>
      pvv prog (binOp .add 3 n_1 (.int .i64 8)) w fun t_11 w =>
      k_8 [t_10, t_11] w) <|
    k_8 [x_0, n_1] w) fun k_12 =>
  pvv prog (binOp .geq 109 x_p0 (.int .u32 65536)) w fun t_13 w =>
  cd t_13 (
    pvv prog (binOp .shr 109 x_p0 (.int .u64 16)) w fun t_14 w =>
    k_12 [t_14, (.int .i64 16)] w) <|
  k_12 [x_p0, (.int .i64 0)] w
theorem B77_eq (x_p0 : Value) (w : World) (K : Value → World → Prop) : denFn prog Tryd.f77 T77 [x_p0] w K = B77 x_p0 w K := by kernel_rfl
theorem c77 {x_p0 : Value} {w : World} {K : Value → World → Prop} (h : B77 x_p0 w K) : Calls prog 77 #[x_p0] w (Ret K) :=
  denFn_calls Tryd.func77 T77_ok (Eq.mpr (B77_eq x_p0 w K) h)

-- 14 (*holdfast/session.Table).Touch
def T14 : Ann := (.seq .none (.seq .none (.meet 4294836224 [] (.seq .none (.seq (.seq .none (.draw [.op 0 .pure, .op 1 .pure, .op 2 .pure, .op 4 .pure, .op 3 .load, .op 5 .load, .op 6 .eff])) .none)) (.seq .none .none))))
theorem T14_ok : chkFn prog Tryd.f14 T14 = true := by kernel_rfl
def B14 (t_p0 id_p1 now_p2 : Value) (w : World) (K : Value → World → Prop) : Prop :=
  efv prog (Instr.alloc 25 true (.tuple #[])) w fun t_0 w =>
  Calls prog 15 #[t_p0, id_p1, now_p2] w (Ret fun t_1 w =>
  pvv prog (Instr.extract t_1 0) w fun t_2 w =>
  pvv prog (Instr.extract t_1 1) w fun t_3 w =>
  efv prog (Instr.alloc 25 true (.tuple #[])) w fun s_4 w =>
  efu prog (Instr.storeAt 25 s_4 t_2) w fun u_5 w =>
  jn (fun σ w => fin σ <|
    ldv prog (Instr.loadAt 25 s_4) w fun t_6 w =>
    efu prog (Instr.storeAt 25 t_0 t_6) w fun u_7 w =>
    ∃ r_8, (do loadVar 25 (← asAddr t_0)).run prog w = .ok r_8 w ∧ K (.tuple #[r_8, t_3]) w) fun k_9 =>
  pvv prog (oEq .eql 34 (.tmp 17) (.const (.int .i64 0)) t_3 (.int .i64 0)) w fun t_10 w =>
  cd t_10 (
    pvv prog (Instr.fieldAt 25 s_4 3) w fun t_11 w =>
    efu prog (Instr.storeAt 3 t_11 now_p2) w fun u_12 w =>
    pv prog (oNil t_p0) w fun t_13 w =>
    pvv prog (Instr.fieldAt 58 t_13 0) w fun t_14 w =>
    pvv prog (Instr.fieldAt 56 t_14 0) w fun t_15 w =>
    efu prog (Instr.storeAt 3 t_15 now_p2) w fun u_16 w =>
    dr w fun w =>
    pv prog (oNil t_p0) w fun t_17 w =>
    pvv prog (Instr.fieldAt 58 t_17 2) w fun t_18 w =>
    bindS (vN (Instr.loadAt 54 t_18)) fun m_20 => ldv prog (Instr.loadAt 54 t_18) w fun t_19 w =>
    bindS (vN (Instr.loadAt 25 s_4)) fun m_22 => ldv prog (Instr.loadAt 25 s_4) w fun t_21 w =>
    efu prog (Instr.mapUpdate 54 t_19 id_p1 t_21) w fun u_23 w =>
    k_9 [] w) <|
  k_9 [] w)
theorem B14_eq (t_p0 id_p1 now_p2 : Value) (w : World) (K : Value → World → Prop) : denFn prog Tryd.f14 T14 [t_p0, id_p1, now_p2] w K = B14 t_p0 id_p1 now_p2 w K := by kernel_rfl
theorem c14 {t_p0 id_p1 now_p2 : Value} {w : World} {K : Value → World → Prop} (h : B14 t_p0 id_p1 now_p2 w K) : Calls prog 14 #[t_p0, id_p1, now_p2] w (Ret K) :=
  denFn_calls Tryd.func14 T14_ok (Eq.mpr (B14_eq t_p0 id_p1 now_p2 w K) h)

-- 35 holdfast/holdfastlaw11.sameSessions
def T35 : Ann := (.seq .none (.seq (.seq .none (.seq (.seq .none .none) .none)) (.seq (.seq .none (.block (.loop 67106864 [5] (.seq (.seq .none (.seq .none .none)) (.seq (.block (.seq (.draw [.op 0 .pure, .op 1 .pure, .op 2 .pure, .op 4 .pure, .op 5 .pure, .op 6 .pure, .op 3 .load, .op 7 .load, .op 8 .pure]) (.seq (.seq .none .none) .none))) .none))))) (.seq .none .none))))
theorem T35_ok : chkFn prog Tryd.f35 T35 = true := by kernel_rfl
def B35 (a_p0 b_p1 : Value) (w : World) (K : Value → World → Prop) : Prop :=
  pv prog (oBi .len #[37] 3 #[false] #[a_p0]) w fun t_0 w =>
  pv prog (oBi .len #[37] 3 #[false] #[b_p1]) w fun t_1 w =>
  pvv prog (oEq .neq 3 (.tmp 7) (.tmp 9) t_0 t_1) w fun t_2 w =>
  cd t_2 (
    K (.bool false) w) <|
  lp (fun σ w again_4 => pop σ fun i_3 σ => fin σ <|
    pv prog (oBi .len #[37] 3 #[false] #[a_p0]) w fun t_5 w =>
    pvv prog (binOp .lss 3 i_3 t_5) w fun t_6 w =>
    cd t_6 (
      dr w fun w =>
      pvv prog (Instr.indexAt 37 a_p0 i_3) w fun t_7 w =>
      pvv prog (Instr.indexAt 37 b_p1 i_3) w fun t_8 w =>
      bindS (vN (Instr.loadAt 25 t_7)) fun m_10 => ldv prog (Instr.loadAt 25 t_7) w fun t_9 w =>
      bindS (vN (Instr.loadAt 25 t_8)) fun m_12 => ldv prog (Instr.loadAt 25 t_8) w fun t_11 w =>
      pvv prog (oEq .neq 25 (.tmp 20) (.tmp 24) t_9 t_11) w fun t_13 w =>
      cd t_13 (
        K (.bool false) w) <|
      pvv prog (binOp .add 3 i_3 (.int .i64 1)) w fun t_14 w =>
      again_4 [t_14] w) <|
    K (.bool true) w) [(.int .i64 0)] w
theorem B35_eq (a_p0 b_p1 : Value) (w : World) (K : Value → World → Prop) : denFn prog Tryd.f35 T35 [a_p0, b_p1] w K = B35 a_p0 b_p1 w K := by kernel_rfl
theorem c35 {a_p0 b_p1 : Value} {w : World} {K : Value → World → Prop} (h : B35 a_p0 b_p1 w K) : Calls prog 35 #[a_p0, b_p1] w (Ret K) :=
  denFn_calls Tryd.func35 T35_ok (Eq.mpr (B35_eq a_p0 b_p1 w K) h)

-- 23 (*holdfast/session.Table).Live$1
def T23 : Ann := (.seq .none (.seq (.draw [.op 0 .pure, .op 1 .load, .op 2 .load, .op 3 .pure, .op 4 .pure, .op 5 .load, .op 6 .load, .op 7 .eff, .op 8 .pure, .op 9 .pure, .op 10 .pure]) .none))
theorem T23_ok : chkFn prog Tryd.f23 T23 = true := by kernel_rfl
def B23 (s_p0 x_p1 x_p2 : Value) (w : World) (K : Value → World → Prop) : Prop :=
  efv prog (Instr.box 25 s_p0) w fun s_0 w =>
  dr w fun w =>
  pvv prog (Instr.fieldAt 25 s_0 1) w fun t_1 w =>
  bindS (vN (Instr.loadAt 23 t_1)) fun m_3 => ldv prog (Instr.loadAt 23 t_1) w fun t_2 w =>
  bindS (vN (Instr.loadAt 23 x_p1)) fun m_5 => ldv prog (Instr.loadAt 23 x_p1) w fun t_4 w =>
  pvv prog (oEq .eql 23 (.tmp 6) (.tmp 7) t_2 t_4) w fun t_6 w =>
  bindS (vN (Instr.loadAt 3 x_p2)) fun m_8 => gate (some (t_6, true)) (fun K => ldv prog (Instr.loadAt 3 x_p2) w K) w fun t_7 w =>
  bindS (vN (Instr.loadAt 25 s_0)) fun m_10 => gate (some (t_6, true)) (fun K => ldv prog (Instr.loadAt 25 s_0) w K) w fun t_9 w =>
  gate (some (t_6, true)) (fun K => Calls prog 9 #[t_9] w (Ret fun s_14 w => stay prog (some (t_6, true)) m_8 t_7 w <| stay prog none m_5 t_4 w <| stay prog none m_3 t_2 w <| K s_14 w)) w fun t_11 w =>
  gate (some (t_6, true)) (fun K => pvv prog (binOp .lss 3 t_7 t_11) w K) w fun t_12 w =>
  pv prog (oPick t_6 t_12 (.bool false)) w fun t_13 w =>
  K t_13 w
theorem B23_eq (s_p0 x_p1 x_p2 : Value) (w : World) (K : Value → World → Prop) : denFn prog Tryd.f23 T23 [s_p0, x_p1, x_p2] w K = B23 s_p0 x_p1 x_p2 w K := by kernel_rfl
theorem c23 {s_p0 x_p1 x_p2 : Value} {w : World} {K : Value → World → Prop} (h : B23 s_p0 x_p1 x_p2 w K) : Calls prog 23 #[s_p0, x_p1, x_p2] w (Ret K) :=
  denFn_calls Tryd.func23 T23_ok (Eq.mpr (B23_eq s_p0 x_p1 x_p2 w K) h)

-- 20 holdfast/codec.IsName
def T20 : Ann := (.seq .none (.seq .none .none))
theorem T20_ok : chkFn prog Tryd.f20 T20 = true := by kernel_rfl
def B20 (s_p0 : Value) (w : World) (K : Value → World → Prop) : Prop :=
  pvv prog (oEq .neq 9 (.tmp 3) (.const (.string ⟨#[]⟩)) s_p0 (.string ⟨#[]⟩)) w fun t_0 w =>
  gate (some (t_0, true)) (fun K => K s_p0 w) w fun t_1 w =>
  gate (some (t_0, true)) (fun K => pv prog (oBi .len #[9] 3 #[false] #[t_1]) w K) w fun t_2 w =>
  gate (some (t_0, true)) (fun K => pvv prog (binOp .leq 3 t_2 (.int .i64 9)) w K) w fun t_3 w =>
  pv prog (oPick t_0 t_3 (.bool false)) w fun t_4 w =>
  gate (some (t_4, true)) (fun K => K s_p0 w) w fun t_5 w =>
  gate (some (t_4, true)) (fun K => Calls prog 36 #[t_5, (.string ⟨#[97, 98, 99, 100, 101, 102, 103, 104, 105, 106, 107, 108, 109, 110, 111, 112, 113, 114, 115, 116, 117, 118, 119, 120, 121, 122, 48, 49, 50, 51, 52, 53, 54, 55, 56, 57, 45]⟩)] w (Ret K)) w fun t_6 w =>
  gate (some (t_4, true)) (fun K => pvv prog (oEq .eql 9 (.tmp 12) (.const (.string ⟨#[]⟩)) t_6 (.string ⟨#[]⟩)) w K) w fun t_7 w =>
  pv prog (oPick t_4 t_7 (.bool false)) w fun t_8 w =>
  K t_8 w
theorem B20_eq (s_p0 : Value) (w : World) (K : Value → World → Prop) : denFn prog Tryd.f20 T20 [s_p0] w K = B20 s_p0 w K := by kernel_rfl
theorem c20 {s_p0 : Value} {w : World} {K : Value → World → Prop} (h : B20 s_p0 w K) : Calls prog 20 #[s_p0] w (Ret K) :=
  denFn_calls Tryd.func20 T20_ok (Eq.mpr (B20_eq s_p0 w K) h)

-- 59 unicode/utf8.DecodeRuneInString
def T59 : Ann := (.seq .none (.seq (.seq .none (.seq (.seq .none .none) .none)) .none))
theorem T59_ok : chkFn prog Tryd.f59 T59 = true := by kernel_rfl
def B59 (s_p0 : Value) (w : World) (K : Value → World → Prop) : Prop :=
  pvv prog (oEq .neq 9 (.tmp 4) (.const (.string ⟨#[]⟩)) s_p0 (.string ⟨#[]⟩)) w fun t_0 w =>
  gate (some (t_0, true)) (fun K => K s_p0 w) w fun t_1 w =>
  gate (some (t_0, true)) (fun K => pvv prog (Instr.index 9 t_1 (.int .i64 0)) w K) w fun t_2 w =>
  gate (some (t_0, true)) (fun K => pvv prog (binOp .lss 5 t_2 (.int .u8 128)) w K) w fun t_3 w =>
  pv prog (oPick t_0 t_3 (.bool false)) w fun t_4 w =>
  cd t_4 (
    pvv prog (Instr.index 9 s_p0 (.int .i64 0)) w fun t_5 w =>
    pvv prog (convert 5 21 t_5) w fun t_6 w =>
    K (.tuple #[t_6, (.int .i64 1)]) w) <|
  Calls prog 65 #[s_p0] w (Ret fun t_7 w =>
  pvv prog (Instr.extract t_7 0) w fun t_8 w =>
  pvv prog (Instr.extract t_7 1) w fun t_9 w =>
  K (.tuple #[t_8, t_9]) w)
theorem B59_eq (s_p0 : Value) (w : World) (K : Value → World → Prop) : denFn prog Tryd.f59 T59 [s_p0] w K = B59 s_p0 w K := by kernel_rfl
theorem c59 {s_p0 : Value} {w : World} {K : Value → World → Prop} (h : B59 s_p0 w K) : Calls prog 59 #[s_p0] w (Ret K) :=
  denFn_calls Tryd.func59 T59_ok (Eq.mpr (B59_eq s_p0 w K) h)

-- 87 slices.medianOrdered[int]
def T87 : Ann := (.seq .none (.seq .none (.seq .none (.seq .none (.seq .none .none)))))
theorem T87_ok : chkFn prog Tryd.f87 T87 = true := by kernel_rfl
def B87 (data_p0 a_p1 b_p2 c_p3 swaps_p4 : Value) (w : World) (K : Value → World → Prop) : Prop :=
  Calls prog 90 #[data_p0, a_p1, b_p2, swaps_p4] w (Ret fun t_0 w =>
  pvv prog (Instr.extract t_0 0) w fun t_1 w =>
  pvv prog (Instr.extract t_0 1) w fun t_2 w =>
  Calls prog 90 #[data_p0, t_2, c_p3, swaps_p4] w (Ret fun t_3 w =>
  pvv prog (Instr.extract t_3 0) w fun t_4 w =>
  pvv prog (Instr.extract t_3 1) w fun t_5 w =>
  Calls prog 90 #[data_p0, t_1, t_4, swaps_p4] w (Ret fun t_6 w =>
  pvv prog (Instr.extract t_6 0) w fun t_7 w =>
  pvv prog (Instr.extract t_6 1) w fun t_8 w =>
  K t_8 w)))
theorem B87_eq (data_p0 a_p1 b_p2 c_p3 swaps_p4 : Value) (w : World) (K : Value → World → Prop) : denFn prog Tryd.f87 T87 [data_p0, a_p1, b_p2, c_p3, swaps_p4] w K = B87 data_p0 a_p1 b_p2 c_p3 swaps_p4 w K := by kernel_rfl
theorem c87 {data_p0 a_p1 b_p2 c_p3 swaps_p4 : Value} {w : World} {K : Value → World → Prop} (h : B87 data_p0 a_p1 b_p2 c_p3 swaps_p4 w K) : Calls prog 87 #[data_p0, a_p1, b_p2, c_p3, swaps_p4] w (Ret K) :=
  denFn_calls Tryd.func87 T87_ok (Eq.mpr (B87_eq data_p0 a_p1 b_p2 c_p3 swaps_p4 w K) h)

-- 37 (holdfast/session.clock).look
def T37 : Ann := (.seq .none (.seq (.block (.seq .none (.seq (.seq .none .none) (.seq .none (.seq (.seq .none .none) .none))))) (.seq .none .none)))
theorem T37_ok : chkFn prog Tryd.f37 T37 = true := by kernel_rfl
def B37 (c_p0 now_p1 : Value) (w : World) (K : Value → World → Prop) : Prop :=
  efv prog (Instr.box 56 c_p0) w fun c_0 w =>
  pvv prog (binOp .lss 3 now_p1 (.int .i64 0)) w fun t_1 w =>
  gate (some (t_1, false)) (fun K => K now_p1 w) w fun t_2 w =>
  gate (some (t_1, false)) (fun K => pvv prog (binOp .gtr 3 t_2 (.int .i64 1099511627776)) w K) w fun t_3 w =>
  pv prog (oPick t_1 (.bool true) t_3) w fun t_4 w =>
  cd t_4 (
    K (.int .i64 2) w) <|
  pvv prog (Instr.fieldAt 56 c_0 0) w fun t_5 w =>
  ldv prog (Instr.loadAt 3 t_5) w fun t_6 w =>
  pvv prog (binOp .lss 3 now_p1 t_6) w fun t_7 w =>
  cd t_7 (
    K (.int .i64 9) w) <|
  K (.int .i64 0) w
theorem B37_eq (c_p0 now_p1 : Value) (w : World) (K : Value → World → Prop) : denFn prog Tryd.f37 T37 [c_p0, now_p1] w K = B37 c_p0 now_p1 w K := by kernel_rfl
theorem c37 {c_p0 now_p1 : Value} {w : World} {K : Value → World → Prop} (h : B37 c_p0 now_p1 w K) : Calls prog 37 #[c_p0, now_p1] w (Ret K) :=
  denFn_calls Tryd.func37 T37_ok (Eq.mpr (B37_eq c_p0 now_p1 w K) h)

-- 113 gosem.cut.vars
def T113 : Ann := .none
theorem T113_ok : chkFn prog Tryd.f113 T113 = true := by kernel_rfl
def B113 (w : World) (K : Value → World → Prop) : Prop :=
  pvv prog (Instr.build 114 #[(0, (.int .u8 128)), (1, (.int .u8 191))]) w fun t_0 w =>
  pvv prog (Instr.build 114 #[(0, (.int .u8 160)), (1, (.int .u8 191))]) w fun t_1 w =>
  pvv prog (Instr.build 114 #[(0, (.int .u8 128)), (1, (.int .u8 159))]) w fun t_2 w =>
  pvv prog (Instr.build 114 #[(0, (.int .u8 144)), (1, (.int .u8 191))]) w fun t_3 w =>
  pvv prog (Instr.build 114 #[(0, (.int .u8 128)), (1, (.int .u8 143))]) w fun t_4 w =>
  pvv prog (Instr.build 115 #[(0, t_0), (1, t_1), (2, t_2), (3, t_3), (4, t_4)]) w fun t_5 w =>
  efu prog (Instr.storeAt 115 (.pointer (some ⟨1, 0, none⟩)) t_5) w fun u_6 w =>
  K (.tuple #[]) w
theorem B113_eq (w : World) (K : Value → World → Prop) : denFn prog Tryd.f113 T113 [] w K = B113  w K := by kernel_rfl
theorem c113 {w : World} {K : Value → World → Prop} (h : B113  w K) : Calls prog 113 #[] w (Ret K) :=
  denFn_calls Tryd.func113 T113_ok (Eq.mpr (B113_eq  w K) h)

-- 21 (*holdfast/session.Table).time
def T21 : Ann := (.seq .none (.seq (.seq .none (.seq (.seq .none .none) .none)) (.seq .none .none)))
theorem T21_ok : chkFn prog Tryd.f21 T21 = true := by kernel_rfl
def B21 (t_p0 now_p1 : Value) (w : World) (K : Value → World → Prop) : Prop :=
  pvv prog (oEq .eql 31 (.tmp 5) (.const (.pointer none)) t_p0 (.pointer none)) w fun t_0 w =>
  cd t_0 (
    K (.int .i64 1) w) <|
  pv prog (oNil t_p0) w fun t_1 w =>
  pvv prog (Instr.fieldAt 58 t_1 0) w fun t_2 w =>
  ldv prog (Instr.loadAt 56 t_2) w fun t_3 w =>
  Calls prog 37 #[t_3, now_p1] w (Ret fun t_4 w =>
  K t_4 w)
theorem B21_eq (t_p0 now_p1 : Value) (w : World) (K : Value → World → Prop) : denFn prog Tryd.f21 T21 [t_p0, now_p1] w K = B21 t_p0 now_p1 w K := by kernel_rfl
theorem c21 {t_p0 now_p1 : Value} {w : World} {K : Value → World → Prop} (h : B21 t_p0 now_p1 w K) : Calls prog 21 #[t_p0, now_p1] w (Ret K) :=
  denFn_calls Tryd.func21 T21_ok (Eq.mpr (B21_eq t_p0 now_p1 w K) h)

-- 64 math/bits.Len
def T64 : Ann := (.seq .none (.seq (.seq (.seq .none .none) .none) (.seq .none .none)))
theorem T64_ok : chkFn prog Tryd.f64 T64 = true := by kernel_rfl
def B64 (x_p0 : Value) (w : World) (K : Value → World → Prop) : Prop :=
  cd (.bool false) (
    pvv prog (convert 97 109 x_p0) w fun t_0 w =>
    Calls prog 77 #[t_0] w (Ret fun t_1 w =>
    K t_1 w)) <|
  Calls prog 78 #[x_p0] w (Ret fun t_2 w =>
  K t_2 w)
theorem B64_eq (x_p0 : Value) (w : World) (K : Value → World → Prop) : denFn prog Tryd.f64 T64 [x_p0] w K = B64 x_p0 w K := by kernel_rfl
theorem c64 {x_p0 : Value} {w : World} {K : Value → World → Prop} (h : B64 x_p0 w K) : Calls prog 64 #[x_p0] w (Ret K) :=
  denFn_calls Tryd.func64 T64_ok (Eq.mpr (B64_eq x_p0 w K) h)

-- 84 slices.nextPowerOfTwo
def T84 : Ann := (.seq .none (.seq .none .none))
theorem T84_ok : chkFn prog Tryd.f84 T84 = true := by kernel_rfl
def B84 (length_p0 : Value) (w : World) (K : Value → World → Prop) : Prop :=
  pvv prog (convert 3 97 length_p0) w fun t_0 w =>
  Calls prog 64 #[t_0] w (Ret fun t_1 w =>
  pvv prog (binOp .shl 97 (.int .u64 1) t_1) w fun t_2 w =>
  K t_2 w)
theorem B84_eq (length_p0 : Value) (w : World) (K : Value → World → Prop) : denFn prog Tryd.f84 T84 [length_p0] w K = B84 length_p0 w K := by kernel_rfl
theorem c84 {length_p0 : Value} {w : World} {K : Value → World → Prop} (h : B84 length_p0 w K) : Calls prog 84 #[length_p0] w (Ret K) :=
  denFn_calls Tryd.func84 T84_ok (Eq.mpr (B84_eq length_p0 w K) h)

-- 89 internal/stringslite.IndexByte
def T89 : Ann := (.seq .none (.seq .none .none))
theorem T89_ok : chkFn prog Tryd.f89 T89 = true := by kernel_rfl
def B89 (s_p0 c_p1 : Value) (w : World) (K : Value → World → Prop) : Prop :=
  ef prog (oCall (.func (.func 91) #[] #[]) #[s_p0, c_p1]) w fun t_0 w =>
  K t_0 w
theorem B89_eq (s_p0 c_p1 : Value) (w : World) (K : Value → World → Prop) : denFn prog Tryd.f89 T89 [s_p0, c_p1] w K = B89 s_p0 c_p1 w K := by kernel_rfl
theorem c89 {s_p0 c_p1 : Value} {w : World} {K : Value → World → Prop} (h : B89 s_p0 c_p1 w K) : Calls prog 89 #[s_p0, c_p1] w (Ret K) :=
  denFn_calls Tryd.func89 T89_ok (Eq.mpr (B89_eq s_p0 c_p1 w K) h)

-- 79 strings.IndexByte
def T79 : Ann := (.seq .none (.seq .none .none))
theorem T79_ok : chkFn prog Tryd.f79 T79 = true := by kernel_rfl
def B79 (s_p0 c_p1 : Value) (w : World) (K : Value → World → Prop) : Prop :=
  Calls prog 89 #[s_p0, c_p1] w (Ret fun t_0 w =>
  K t_0 w)
theorem B79_eq (s_p0 c_p1 : Value) (w : World) (K : Value → World → Prop) : denFn prog Tryd.f79 T79 [s_p0, c_p1] w K = B79 s_p0 c_p1 w K := by kernel_rfl
theorem c79 {s_p0 c_p1 : Value} {w : World} {K : Value → World → Prop} (h : B79 s_p0 c_p1 w K) : Calls prog 79 #[s_p0, c_p1] w (Ret K) :=
  denFn_calls Tryd.func79 T79_ok (Eq.mpr (B79_eq s_p0 c_p1 w K) h)


end Go.Proofs.YticbbnjhiiimcaaDoor
