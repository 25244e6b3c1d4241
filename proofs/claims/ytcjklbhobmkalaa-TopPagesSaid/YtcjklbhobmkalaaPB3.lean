import Derived.Test.YtcjklbhobmkalaaPI
set_option linter.all false
set_option maxRecDepth 100000
namespace Go.Proofs.Ytcjklbhobmkalaa
open Go Hold
-- 76 slices.partialInsertionSortOrdered[int]
def T76 : Ann := (.seq .none (.seq .none (.seq (.seq .none (.block (.loop 10889035741470030830827987437816582760384 [7, 8] (.seq (.seq .none (.seq .none .none)) (.meet 10889035741470030830827987437816582637248 [7] (.block (.seq (.block (.loop 34359607424 [7] (.seq (.seq (.draw [.op 0 .pure, .op 1 .pure, .op 2 .pure, .op 3 .pure, .op 4 .pure, .op 5 .pure, .op 6 .pure, .op 8 .pure, .op 9 .pure, .op 10 .pure, .op 11 .pure, .op 7 .load, .op 12 .load, .op 13 .eff, .op 14 .pure, .op 15 .pure]) (.seq .none .none)) (.block .none)))) (.seq (.seq .none (.seq (.seq .none .none) .none)) (.seq (.seq .none (.seq (.seq .none .none) .none)) (.seq (.draw [.op 0 .pure, .op 1 .pure, .op 2 .pure, .op 3 .pure, .op 4 .pure, .op 5 .pure, .op 6 .pure, .op 7 .pure, .op 8 .pure, .op 10 .pure, .op 11 .pure, .op 12 .pure, .op 9 .load, .op 13 .load, .op 14 .pure, .op 15 .eff, .op 16 .pure, .op 17 .eff]) (.meet 39614081256843938420620263936 [] (.seq .none (.seq (.seq .none (.block (.loop 39614081238685424723062424064 [9] (.seq (.seq .none (.seq .none .none)) (.seq (.block (.seq (.seq (.draw [.op 0 .pure, .op 1 .pure, .op 2 .pure, .op 4 .pure, .op 5 .pure, .op 6 .pure, .op 7 .pure, .op 3 .load, .op 8 .load, .op 9 .eff, .op 10 .pure]) (.seq .none .none)) (.draw [.op 0 .pure, .op 1 .pure, .op 2 .pure, .op 3 .pure, .op 4 .pure, .op 5 .pure, .op 6 .pure, .op 7 .pure, .op 8 .pure, .op 10 .pure, .op 11 .pure, .op 12 .pure, .op 9 .load, .op 13 .load, .op 14 .pure, .op 15 .eff, .op 16 .pure, .op 17 .eff]))) .none))))) .none)) (.seq .none (.seq (.seq .none (.block (.loop 10889035738934729630371528634823176356864 [10] (.seq (.seq .none (.seq .none .none)) (.seq (.block (.seq (.seq (.draw [.op 0 .pure, .op 1 .pure, .op 2 .pure, .op 4 .pure, .op 5 .pure, .op 6 .pure, .op 7 .pure, .op 3 .load, .op 8 .load, .op 9 .eff, .op 10 .pure]) (.seq .none .none)) (.draw [.op 0 .pure, .op 1 .pure, .op 2 .pure, .op 3 .pure, .op 4 .pure, .op 5 .pure, .op 6 .pure, .op 7 .pure, .op 8 .pure, .op 10 .pure, .op 11 .pure, .op 12 .pure, .op 9 .load, .op 13 .load, .op 14 .pure, .op 15 .eff, .op 16 .pure, .op 17 .eff]))) .none))))) .none)))))))) .none))))) (.seq .none .none))))
theorem T76_ok : chkFn prog Try.f76 T76 = true := by kernel_rfl
def B76 (data_p0 a_p1 b_p2 : Value) (w : World) (K : Value → World → Prop) : Prop :=
  pvv prog (binOp .add 3 a_p1 (.int .i64 1)) w fun t_0 w =>
  lp (fun σ w again_3 => pop σ fun i_1 σ => pop σ fun j_2 σ => fin σ <|
    pvv prog (binOp .lss 3 j_2 (.int .i64 5)) w fun t_4 w =>
    cd t_4 (
      jn (fun σ w => pop σ fun i_5 σ => fin σ <|
        pvv prog (binOp .add 3 j_2 (.int .i64 1)) w fun t_6 w =>
        again_3 [i_5, t_6] w) fun k_7 =>
      lp (fun σ w again_9 => pop σ fun i_8 σ => fin σ <|
        dr w fun w =>
        pvv prog (binOp .lss 3 i_8 b_p2) w fun t_10 w =>
        gate (some (t_10, true)) (fun K => K data_p0 w) w fun t_11 w =>
        gate (some (t_10, true)) (fun K => K i_8 w) w fun t_12 w =>
        gate (some (t_10, true)) (fun K => pvv prog (Instr.indexAt 38 t_11 t_12) w K) w fun t_13 w =>
        gate (some (t_10, true)) (fun K => K data_p0 w) w fun t_14 w =>
        gate (some (t_10, true)) (fun K => K i_8 w) w fun t_15 w =>
        gate (some (t_10, true)) (fun K => pvv prog (binOp .sub 3 t_15 (.int .i64 1)) w K) w fun t_16 w =>
        gate (some (t_10, true)) (fun K => pvv prog (Instr.indexAt 38 t_14 t_16) w K) w fun t_17 w =>
        bindS (vN (Instr.loadAt 3 t_13)) fun m_19 => gate (some (t_10, true)) (fun K => ldv prog (Instr.loadAt 3 t_13) w K) w fun t_18 w =>
        bindS (vN (Instr.loadAt 3 t_17)) fun m_21 => gate (some (t_10, true)) (fun K => ldv prog (Instr.loadAt 3 t_17) w K) w fun t_20 w =>
        gate (some (t_10, true)) (fun K => Calls prog 77 #[t_18, t_20] w (Ret fun s_106 w => K s_106 w)) w fun t_22 w =>
        gate (some (t_10, true)) (fun K => pvv prog (Op.unary .not t_22) w K) w fun t_23 w =>
        pv prog (oPick t_10 t_23 (.bool false)) w fun t_24 w =>
        cd t_24 (
          pvv prog (binOp .add 3 i_8 (.int .i64 1)) w fun t_25 w =>
          again_9 [t_25] w) <|
        pvv prog (oEq .eql 3 (.tmp 35) (.tmp 36) i_8 b_p2) w fun t_26 w =>
        cd t_26 (
          K (.bool true) w) <|
        pvv prog (binOp .sub 3 b_p2 a_p1) w fun t_27 w =>
        pvv prog (binOp .lss 3 t_27 (.int .i64 50)) w fun t_28 w =>
        cd t_28 (
          K (.bool false) w) <|
        dr w fun w =>
        pvv prog (binOp .sub 3 i_8 (.int .i64 1)) w fun t_29 w =>
        pvv prog (binOp .sub 3 i_8 (.int .i64 1)) w fun t_30 w =>
        pvv prog (Instr.indexAt 38 data_p0 t_30) w fun t_31 w =>
        pvv prog (Instr.indexAt 38 data_p0 i_8) w fun t_32 w =>
        bindS (vN (Instr.loadAt 3 t_31)) fun m_34 => ldv prog (Instr.loadAt 3 t_31) w fun t_33 w =>
        bindS (vN (Instr.loadAt 3 t_32)) fun m_36 => ldv prog (Instr.loadAt 3 t_32) w fun t_35 w =>
        pvv prog (Instr.indexAt 38 data_p0 i_8) w fun t_37 w =>
        efu prog (Instr.storeAt 3 t_37 t_33) w fun u_38 w =>
        pvv prog (Instr.indexAt 38 data_p0 t_29) w fun t_39 w =>
        efu prog (Instr.storeAt 3 t_39 t_35) w fun u_40 w =>
        jn (fun σ w => fin σ <|
          pvv prog (binOp .sub 3 b_p2 i_8) w fun t_41 w =>
          pvv prog (binOp .geq 3 t_41 (.int .i64 2)) w fun t_42 w =>
          cd t_42 (
            pvv prog (binOp .add 3 i_8 (.int .i64 1)) w fun t_43 w =>
            lp (fun σ w again_45 => pop σ fun j_44 σ => fin σ <|
              pvv prog (binOp .lss 3 j_44 b_p2) w fun t_46 w =>
              cd t_46 (
                dr w fun w =>
                pvv prog (Instr.indexAt 38 data_p0 j_44) w fun t_47 w =>
                pvv prog (binOp .sub 3 j_44 (.int .i64 1)) w fun t_48 w =>
                pvv prog (Instr.indexAt 38 data_p0 t_48) w fun t_49 w =>
                bindS (vN (Instr.loadAt 3 t_47)) fun m_51 => ldv prog (Instr.loadAt 3 t_47) w fun t_50 w =>
                bindS (vN (Instr.loadAt 3 t_49)) fun m_53 => ldv prog (Instr.loadAt 3 t_49) w fun t_52 w =>
                Calls prog 77 #[t_50, t_52] w (Ret fun t_54 w =>
                pvv prog (Op.unary .not t_54) w fun t_55 w =>
                cd t_55 (
                  k_7 [i_8] w) <|
                dr w fun w =>
                pvv prog (binOp .sub 3 j_44 (.int .i64 1)) w fun t_56 w =>
                pvv prog (binOp .sub 3 j_44 (.int .i64 1)) w fun t_57 w =>
                pvv prog (Instr.indexAt 38 data_p0 t_57) w fun t_58 w =>
                pvv prog (Instr.indexAt 38 data_p0 j_44) w fun t_59 w =>
                bindS (vN (Instr.loadAt 3 t_58)) fun m_61 => ldv prog (Instr.loadAt 3 t_58) w fun t_60 w =>
                bindS (vN (Instr.loadAt 3 t_59)) fun m_63 => ldv prog (Instr.loadAt 3 t_59) w fun t_62 w =>
                pvv prog (Instr.indexAt 38 data_p0 j_44) w fun t_64 w =>
                efu prog (Instr.storeAt 3 t_64 t_60) w fun u_65 w =>
                pvv prog (Instr.indexAt 38 data_p0 t_56) w fun t_66 w =>
                efu prog (Instr.storeAt 3 t_66 t_62) w fun u_67 w =>
                pvv prog (binOp .add 3 j_44 (.int .i64 1)) w fun t_68 w =>
                again_45 [t_68] w)) <|
              k_7 [i_8] w) [t_43] w) <|
          k_7 [i_8] w) fun k_72 =>
        pvv prog (binOp .sub 3 i_8 a_p1) w fun t_73 w =>
        pvv prog (binOp .geq 3 t_73 (.int .i64 2)) w fun t_74 w =>
        cd t_74 (
          pvv prog (binOp .sub 3 i_8 (.int .i64 1)) w fun t_75 w =>
          lp (fun σ w again_77 => pop σ fun j_76 σ => fin σ <|
            pvv prog (binOp .geq 3 j_76 (.int .i64 1)) w fun t_78 w =>
            cd t_78 (
              dr w fun w =>
              pvv prog (Instr.indexAt 38 data_p0 j_76) w fun t_79 w =>
              pvv prog (binOp .sub 3 j_76 (.int .i64 1)) w fun t_80 w =>
              pvv prog (Instr.indexAt 38 data_p0 t_80) w fun t_81 w =>
              bindS (vN (Instr.loadAt 3 t_79)) fun m_83 => ldv prog (Instr.loadAt 3 t_79) w fun t_82 w =>
              bindS (vN (Instr.loadAt 3 t_81)) fun m_85 => ldv prog (Instr.loadAt 3 t_81) w fun t_84 w =>
              Calls prog 77 #[t_82, t_84] w (Ret fun t_86 w =>
              pvv prog (Op.unary .not t_86) w fun t_87 w =>
              cd t_87 (
                k_72 [] w) <|
              dr w fun w =>
              pvv prog (binOp .sub 3 j_76 (.int .i64 1)) w fun t_88 w =>
              pvv prog (binOp .sub 3 j_76 (.int .i64 1)) w fun t_89 w =>
              pvv prog (Instr.indexAt 38 data_p0 t_89) w fun t_90 w =>
              pvv prog (Instr.indexAt 38 data_p0 j_76) w fun t_91 w =>
              bindS (vN (Instr.loadAt 3 t_90)) fun m_93 => ldv prog (Instr.loadAt 3 t_90) w fun t_92 w =>
              bindS (vN (Instr.loadAt 3 t_91)) fun m_95 => ldv prog (Instr.loadAt 3 t_91) w fun t_94 w =>
              pvv prog (Instr.indexAt 38 data_p0 j_76) w fun t_96 w =>
              efu prog (Instr.storeAt 3 t_96 t_92) w fun u_97 w =>
              pvv prog (Instr.indexAt 38 data_p0 t_88) w fun t_98 w =>
              efu prog (Instr.storeAt 3 t_98 t_94) w fun u_99 w =>
              pvv prog (binOp .sub 3 j_76 (.int .i64 1)) w fun t_100 w =>
              again_77 [t_100] w)) <|
            k_72 [] w) [t_75] w) <|
        k_72 [] w) [i_1] w) <|
    K (.bool false) w) [t_0, (.int .i64 0)] w
theorem B76_eq (data_p0 a_p1 b_p2 : Value) (w : World) (K : Value → World → Prop) : denFn prog Try.f76 T76 [data_p0, a_p1, b_p2] w K = B76 data_p0 a_p1 b_p2 w K := by kernel_rfl
theorem c76 {data_p0 a_p1 b_p2 : Value} {w : World} {K : Value → World → Prop} (h : B76 data_p0 a_p1 b_p2 w K) : Calls prog 76 #[data_p0, a_p1, b_p2] w (Ret K) :=
  denFn_calls Try.func76 T76_ok (Eq.mpr (B76_eq data_p0 a_p1 b_p2 w K) h)

-- 65 slices.pdqsortOrdered[int]
def T65 : Ann := (.seq .none (.seq .none (.block (.loop 21778071482940061661655974875633165532942 [1, 2, 3, 8, 9] (.block (.seq .none (.seq (.seq .none (.seq (.seq .none .none) .none)) (.seq (.seq .none (.seq (.seq .none .none) .none)) (.meet 4380866641928 [3] (.seq .none (.seq (.seq .none .none) .none)) (.seq .none (.meet 2305280059260278784 [11, 12] (.seq .none (.seq (.seq .none (.seq .none .none)) .none)) (.meet 9442427122730076733440 [] (.seq .none (.seq (.seq .none (.seq .none .none)) .none)) (.seq (.seq (.draw [.op 0 .pure, .op 1 .pure, .op 2 .pure, .op 3 .pure, .op 4 .pure, .op 5 .pure, .op 6 .pure, .op 8 .pure, .op 9 .pure, .op 10 .pure, .op 7 .load, .op 11 .load, .op 12 .eff, .op 13 .pure, .op 14 .pure]) (.seq (.seq .none (.seq .none .none)) .none)) (.seq .none (.seq .none (.seq .none (.seq .none (.seq .none (.seq (.seq .none (.seq .none .none)) (.seq .none (.seq .none .none)))))))))))))))))))))
theorem T65_ok : chkFn prog Try.f65 T65 = true := by kernel_rfl
def B65 (data_p0 a_p1 b_p2 limit_p3 : Value) (w : World) (K : Value → World → Prop) : Prop :=
  lp (fun σ w again_5 => pop σ fun a_0 σ => pop σ fun b_1 σ => pop σ fun limit_2 σ => pop σ fun wasBalanced_3 σ => pop σ fun wasPartitioned_4 σ => fin σ <|
    pvv prog (binOp .sub 3 b_1 a_0) w fun t_6 w =>
    pvv prog (binOp .leq 3 t_6 (.int .i64 12)) w fun t_7 w =>
    cd t_7 (
      Calls prog 71 #[data_p0, a_0, b_1] w (Ret fun t_8 w =>
      K (.tuple #[]) w)) <|
    pvv prog (oEq .eql 3 (.tmp 28) (.const (.int .i64 0)) limit_2 (.int .i64 0)) w fun t_9 w =>
    cd t_9 (
      Calls prog 72 #[data_p0, a_0, b_1] w (Ret fun t_10 w =>
      K (.tuple #[]) w)) <|
    jn (fun σ w => pop σ fun limit_11 σ => fin σ <|
      Calls prog 74 #[data_p0, a_0, b_1] w (Ret fun t_12 w =>
      pvv prog (Instr.extract t_12 0) w fun t_13 w =>
      pvv prog (Instr.extract t_12 1) w fun t_14 w =>
      jn (fun σ w => pop σ fun pivot_15 σ => pop σ fun hint_16 σ => fin σ <|
        jn (fun σ w => fin σ <|
          dr w fun w =>
          pvv prog (binOp .gtr 3 a_0 (.int .i64 0)) w fun t_17 w =>
          gate (some (t_17, true)) (fun K => K data_p0 w) w fun t_18 w =>
          gate (some (t_17, true)) (fun K => K a_0 w) w fun t_19 w =>
          gate (some (t_17, true)) (fun K => pvv prog (binOp .sub 3 t_19 (.int .i64 1)) w K) w fun t_20 w =>
          gate (some (t_17, true)) (fun K => pvv prog (Instr.indexAt 38 t_18 t_20) w K) w fun t_21 w =>
          gate (some (t_17, true)) (fun K => K data_p0 w) w fun t_22 w =>
          gate (some (t_17, true)) (fun K => K pivot_15 w) w fun t_23 w =>
          gate (some (t_17, true)) (fun K => pvv prog (Instr.indexAt 38 t_22 t_23) w K) w fun t_24 w =>
          bindS (vN (Instr.loadAt 3 t_21)) fun m_26 => gate (some (t_17, true)) (fun K => ldv prog (Instr.loadAt 3 t_21) w K) w fun t_25 w =>
          bindS (vN (Instr.loadAt 3 t_24)) fun m_28 => gate (some (t_17, true)) (fun K => ldv prog (Instr.loadAt 3 t_24) w K) w fun t_27 w =>
          gate (some (t_17, true)) (fun K => Calls prog 77 #[t_25, t_27] w (Ret fun s_46 w => K s_46 w)) w fun t_29 w =>
          gate (some (t_17, true)) (fun K => pvv prog (Op.unary .not t_29) w K) w fun t_30 w =>
          pv prog (oPick t_17 t_30 (.bool false)) w fun t_31 w =>
          cd t_31 (
            Calls prog 78 #[data_p0, a_0, b_1, pivot_15] w (Ret fun t_32 w =>
            again_5 [t_32, b_1, limit_11, wasBalanced_3, wasPartitioned_4] w)) <|
          Calls prog 79 #[data_p0, a_0, b_1, pivot_15] w (Ret fun t_33 w =>
          pvv prog (Instr.extract t_33 0) w fun t_34 w =>
          pvv prog (Instr.extract t_33 1) w fun t_35 w =>
          pvv prog (binOp .sub 3 t_34 a_0) w fun t_36 w =>
          pvv prog (binOp .sub 3 b_1 t_34) w fun t_37 w =>
          pvv prog (binOp .quo 3 t_6 (.int .i64 8)) w fun t_38 w =>
          pvv prog (binOp .lss 3 t_36 t_37) w fun t_39 w =>
          cd t_39 (
            pvv prog (binOp .geq 3 t_36 t_38) w fun t_40 w =>
            Calls prog 65 #[data_p0, a_0, t_34, limit_11] w (Ret fun t_41 w =>
            pvv prog (binOp .add 3 t_34 (.int .i64 1)) w fun t_42 w =>
            again_5 [t_42, b_1, limit_11, t_40, t_35] w)) <|
          pvv prog (binOp .geq 3 t_37 t_38) w fun t_43 w =>
          pvv prog (binOp .add 3 t_34 (.int .i64 1)) w fun t_44 w =>
          Calls prog 65 #[data_p0, t_44, b_1, limit_11] w (Ret fun t_45 w =>
          again_5 [a_0, t_34, limit_11, t_43, t_35] w))) fun k_47 =>
        gate (some (wasBalanced_3, true)) (fun K => K wasPartitioned_4 w) w fun t_48 w =>
        pv prog (oPick wasBalanced_3 t_48 (.bool false)) w fun t_49 w =>
        gate (some (t_49, true)) (fun K => K hint_16 w) w fun t_50 w =>
        gate (some (t_49, true)) (fun K => pvv prog (oEq .eql 114 (.tmp 66) (.const (.int .i64 1)) t_50 (.int .i64 1)) w K) w fun t_51 w =>
        pv prog (oPick t_49 t_51 (.bool false)) w fun t_52 w =>
        cd t_52 (
          Calls prog 76 #[data_p0, a_0, b_1] w (Ret fun t_53 w =>
          cd t_53 (
            K (.tuple #[]) w) <|
          k_47 [] w)) <|
        k_47 [] w) fun k_54 =>
      pvv prog (oEq .eql 114 (.tmp 49) (.const (.int .i64 2)) t_14 (.int .i64 2)) w fun t_55 w =>
      cd t_55 (
        Calls prog 75 #[data_p0, a_0, b_1] w (Ret fun t_56 w =>
        pvv prog (binOp .sub 3 b_1 (.int .i64 1)) w fun t_57 w =>
        pvv prog (binOp .sub 3 t_13 a_0) w fun t_58 w =>
        pvv prog (binOp .sub 3 t_57 t_58) w fun t_59 w =>
        k_54 [t_59, (.int .i64 1)] w)) <|
      k_54 [t_13, t_14] w)) fun k_60 =>
    pvv prog (Op.unary .not wasBalanced_3) w fun t_61 w =>
    cd t_61 (
      Calls prog 73 #[data_p0, a_0, b_1] w (Ret fun t_62 w =>
      pvv prog (binOp .sub 3 limit_2 (.int .i64 1)) w fun t_63 w =>
      k_60 [t_63] w)) <|
    k_60 [limit_2] w) [a_p1, b_p2, limit_p3, (.bool true), (.bool true)] w
theorem B65_eq (data_p0 a_p1 b_p2 limit_p3 : Value) (w : World) (K : Value → World → Prop) : denFn prog Try.f65 T65 [data_p0, a_p1, b_p2, limit_p3] w K = B65 data_p0 a_p1 b_p2 limit_p3 w K := by kernel_rfl
theorem c65 {data_p0 a_p1 b_p2 limit_p3 : Value} {w : World} {K : Value → World → Prop} (h : B65 data_p0 a_p1 b_p2 limit_p3 w K) : Calls prog 65 #[data_p0, a_p1, b_p2, limit_p3] w (Ret K) :=
  denFn_calls Try.func65 T65_ok (Eq.mpr (B65_eq data_p0 a_p1 b_p2 limit_p3 w K) h)

-- 22 (*holdfast/wal.Log).group
def T22 : Ann := (.seq .none (.seq .none (.seq .none (.seq (.seq .none (.seq (.seq .none .none) .none)) (.seq .none (.seq (.seq .none (.block (.loop 302231454340707340257040 [8, 49] (.seq .none (.seq (.seq .none .none) (.seq (.block (.seq .none (.seq .none (.seq (.seq .none (.seq (.seq .none .none) .none)) (.seq .none .none))))) .none)))))) (.seq .none .none)))))))
theorem T22_ok : chkFn prog Try.f22 T22 = true := by kernel_rfl
def B22 (l_p0 n_p1 : Value) (w : World) (K : Value → World → Prop) : Prop :=
  pv prog (oNil l_p0) w fun t_0 w =>
  pvv prog (Instr.fieldAt 58 t_0 0) w fun t_1 w =>
  pvv prog (Instr.fieldAt 55 t_1 0) w fun t_2 w =>
  ldv prog (Instr.loadAt 23 t_2) w fun t_3 w =>
  Calls prog 18 #[t_3, n_p1] w (Ret fun t_4 w =>
  pvv prog (Instr.extract t_4 0) w fun t_5 w =>
  pvv prog (Instr.extract t_4 1) w fun t_6 w =>
  Calls prog 21 #[t_5] w (Ret fun t_7 w =>
  pvv prog (binOp .lss 3 t_7 (.int .i64 1)) w fun t_8 w =>
  gate (some (t_8, false)) (fun K => K t_7 w) w fun t_9 w =>
  gate (some (t_8, false)) (fun K => pvv prog (binOp .gtr 3 t_9 (.int .i64 100)) w K) w fun t_10 w =>
  pv prog (oPick t_8 (.bool true) t_10) w fun t_11 w =>
  gate (some (t_11, false)) (fun K => K n_p1 w) w fun t_12 w =>
  gate (some (t_11, false)) (fun K => K t_7 w) w fun t_13 w =>
  gate (some (t_11, false)) (fun K => pvv prog (binOp .add 3 t_12 t_13) w K) w fun t_14 w =>
  gate (some (t_11, false)) (fun K => K l_p0 w) w fun t_15 w =>
  gate (some (t_11, false)) (fun K => pv prog (oNil t_15) w K) w fun t_16 w =>
  gate (some (t_11, false)) (fun K => pvv prog (Instr.fieldAt 58 t_16 3) w K) w fun t_17 w =>
  gate (some (t_11, false)) (fun K => ldv prog (Instr.loadAt 3 t_17) w K) w fun t_18 w =>
  gate (some (t_11, false)) (fun K => pvv prog (binOp .gtr 3 t_14 t_18) w K) w fun t_19 w =>
  pv prog (oPick t_11 (.bool true) t_19) w fun t_20 w =>
  gate (some (t_20, false)) (fun K => K t_5 w) w fun t_21 w =>
  gate (some (t_20, false)) (fun K => K t_7 w) w fun t_22 w =>
  gate (some (t_20, false)) (fun K => pvv prog (binOp .mul 3 (.int .i64 2) t_22) w K) w fun t_23 w =>
  gate (some (t_20, false)) (fun K => pvv prog (binOp .add 3 (.int .i64 2) t_23) w K) w fun t_24 w =>
  gate (some (t_20, false)) (fun K => pvv prog (Instr.sliceAt 33 t_21 (some t_24) none none) w K) w fun t_25 w =>
  gate (some (t_20, false)) (fun K => Calls prog 19 #[t_25] w (Ret K)) w fun t_26 w =>
  gate (some (t_20, false)) (fun K => pvv prog (Op.unary .not t_26) w K) w fun t_27 w =>
  pv prog (oPick t_20 (.bool true) t_27) w fun t_28 w =>
  cd t_28 (
    K (.int .i64 0) w) <|
  lp (fun σ w again_31 => pop σ fun last_29 σ => pop σ fun t_30 σ => fin σ <|
    pvv prog (binOp .lss 3 t_30 t_7) w fun t_32 w =>
    cd t_32 (
      pvv prog (binOp .mul 3 (.int .i64 2) t_30) w fun t_33 w =>
      pvv prog (binOp .add 3 (.int .i64 2) t_33) w fun t_34 w =>
      pvv prog (Instr.sliceAt 33 t_5 (some t_34) none none) w fun t_35 w =>
      Calls prog 21 #[t_35] w (Ret fun t_36 w =>
      pvv prog (binOp .leq 3 t_36 last_29) w fun t_37 w =>
      gate (some (t_37, false)) (fun K => K t_36 w) w fun t_38 w =>
      gate (some (t_37, false)) (fun K => K l_p0 w) w fun t_39 w =>
      gate (some (t_37, false)) (fun K => Calls prog 39 #[t_39] w (Ret K)) w fun t_40 w =>
      gate (some (t_37, false)) (fun K => pvv prog (binOp .geq 3 t_38 t_40) w K) w fun t_41 w =>
      pv prog (oPick t_37 (.bool true) t_41) w fun t_42 w =>
      cd t_42 (
        K (.int .i64 0) w) <|
      pv prog (oNil l_p0) w fun t_43 w =>
      pvv prog (Instr.fieldAt 58 t_43 4) w fun t_44 w =>
      ldv prog (Instr.loadAt 56 t_44) w fun t_45 w =>
      pvv prog (binOp .add 3 n_p1 (.int .i64 1)) w fun t_46 w =>
      pvv prog (binOp .add 3 t_46 t_30) w fun t_47 w =>
      efu prog (Instr.mapUpdate 56 t_45 t_36 t_47) w fun u_48 w =>
      pvv prog (binOp .add 3 t_30 (.int .i64 1)) w fun t_49 w =>
      again_31 [t_36, t_49] w)) <|
    K t_7 w) [(.int .i64 (-1)), (.int .i64 0)] w))
theorem B22_eq (l_p0 n_p1 : Value) (w : World) (K : Value → World → Prop) : denFn prog Try.f22 T22 [l_p0, n_p1] w K = B22 l_p0 n_p1 w K := by kernel_rfl
theorem c22 {l_p0 n_p1 : Value} {w : World} {K : Value → World → Prop} (h : B22 l_p0 n_p1 w K) : Calls prog 22 #[l_p0, n_p1] w (Ret K) :=
  denFn_calls Try.func22 T22_ok (Eq.mpr (B22_eq l_p0 n_p1 w K) h)

-- 53 (*holdfast/block.Disk).Write
def T53 : Ann := (.seq .none (.seq (.block (.seq .none (.seq (.seq .none .none) (.seq .none (.seq (.seq .none .none) (.seq .none (.seq (.seq .none .none) .none))))))) (.seq (.draw [.op 0 .pure, .op 1 .pure, .op 2 .pure, .op 3 .pure, .op 5 .pure, .op 6 .pure, .op 7 .pure, .op 8 .pure, .op 10 .pure, .op 4 .load, .op 9 .load, .op 11 .pure, .op 12 .load, .op 13 .pure, .op 14 .eff, .op 15 .eff, .op 16 .pure, .op 17 .pure, .op 18 .eff]) (.seq .none (.seq (.draw [.op 0 .pure, .op 1 .pure, .op 2 .pure, .op 4 .pure, .op 5 .pure, .op 3 .load, .op 6 .eff, .op 7 .pure, .op 8 .eff]) (.seq .none .none))))))
theorem T53_ok : chkFn prog Try.f53 T53 = true := by kernel_rfl
def B53 (d_p0 n_p1 b_p2 : Value) (w : World) (K : Value → World → Prop) : Prop :=
  pvv prog (oEq .eql 23 (.tmp 8) (.const (.pointer none)) d_p0 (.pointer none)) w fun t_0 w =>
  cd t_0 (
    K (.int .i64 1) w) <|
  pvv prog (binOp .lss 3 n_p1 (.int .i64 0)) w fun t_1 w =>
  gate (some (t_1, false)) (fun K => K n_p1 w) w fun t_2 w =>
  gate (some (t_1, false)) (fun K => K d_p0 w) w fun t_3 w =>
  gate (some (t_1, false)) (fun K => pv prog (oNil t_3) w K) w fun t_4 w =>
  gate (some (t_1, false)) (fun K => pvv prog (Instr.fieldAt 51 t_4 0) w K) w fun t_5 w =>
  gate (some (t_1, false)) (fun K => ldv prog (Instr.loadAt 22 t_5) w K) w fun t_6 w =>
  gate (some (t_1, false)) (fun K => pv prog (oBi .len #[22] 3 #[false] #[t_6]) w K) w fun t_7 w =>
  gate (some (t_1, false)) (fun K => pvv prog (binOp .geq 3 t_2 t_7) w K) w fun t_8 w =>
  pv prog (oPick t_1 (.bool true) t_8) w fun t_9 w =>
  cd t_9 (
    K (.int .i64 2) w) <|
  pv prog (oBi .len #[33] 3 #[false] #[b_p2]) w fun t_10 w =>
  pvv prog (oEq .neq 3 (.tmp 24) (.const (.int .i64 256)) t_10 (.int .i64 256)) w fun t_11 w =>
  cd t_11 (
    K (.int .i64 3) w) <|
  dr w fun w =>
  pv prog (oNil d_p0) w fun t_12 w =>
  pvv prog (Instr.fieldAt 51 t_12 1) w fun t_13 w =>
  pv prog (oNil d_p0) w fun t_14 w =>
  pvv prog (Instr.fieldAt 51 t_14 0) w fun t_15 w =>
  bindS (vN (Instr.loadAt 44 t_13)) fun m_17 => ldv prog (Instr.loadAt 44 t_13) w fun t_16 w =>
  bindS (vN (Instr.loadAt 22 t_15)) fun m_19 => ldv prog (Instr.loadAt 22 t_15) w fun t_18 w =>
  pvv prog (Instr.indexAt 22 t_18 n_p1) w fun t_20 w =>
  bindS (vN (Instr.loadAt 33 t_20)) fun m_22 => ldv prog (Instr.loadAt 33 t_20) w fun t_21 w =>
  pvv prog (Instr.build 84 #[(0, n_p1), (1, t_21)]) w fun t_23 w =>
  efv prog (Instr.buildSlice 44 1 #[(0, t_23)]) w fun t_24 w => stay prog none m_22 t_21 w <| stay prog none m_19 t_18 w <| stay prog none m_17 t_16 w <| 
  ef prog (oBi .append #[44, 44] 44 #[false, false] #[t_16, t_24]) w fun t_25 w => stay prog none m_22 t_21 w <| stay prog none m_19 t_18 w <| 
  pv prog (oNil d_p0) w fun t_26 w =>
  pvv prog (Instr.fieldAt 51 t_26 1) w fun t_27 w =>
  efu prog (Instr.storeAt 44 t_27 t_25) w fun u_28 w =>
  pv prog (oNil d_p0) w fun t_29 w =>
  pvv prog (Instr.fieldAt 51 t_29 2) w fun t_30 w =>
  Calls prog 57 #[t_30, (.int .i64 1)] w (Ret fun t_31 w =>
  dr w fun w =>
  pv prog (oNil d_p0) w fun t_32 w =>
  pvv prog (Instr.fieldAt 51 t_32 0) w fun t_33 w =>
  bindS (vN (Instr.loadAt 22 t_33)) fun m_35 => ldv prog (Instr.loadAt 22 t_33) w fun t_34 w =>
  Calls prog 26 #[b_p2] w (Ret fun t_36 w => stay prog none m_35 t_34 w <| 
  pvv prog (Instr.indexAt 22 t_34 n_p1) w fun t_37 w =>
  efu prog (Instr.storeAt 33 t_37 t_36) w fun u_38 w =>
  K (.int .i64 0) w))
theorem B53_eq (d_p0 n_p1 b_p2 : Value) (w : World) (K : Value → World → Prop) : denFn prog Try.f53 T53 [d_p0, n_p1, b_p2] w K = B53 d_p0 n_p1 b_p2 w K := by kernel_rfl
theorem c53 {d_p0 n_p1 b_p2 : Value} {w : World} {K : Value → World → Prop} (h : B53 d_p0 n_p1 b_p2 w K) : Calls prog 53 #[d_p0, n_p1, b_p2] w (Ret K) :=
  denFn_calls Try.func53 T53_ok (Eq.mpr (B53_eq d_p0 n_p1 b_p2 w K) h)

-- 10 (*holdfast/pager.Pager).Write
def T10 : Ann := (.seq .none (.seq (.seq .none (.seq .none (.seq (.seq .none .none) .none))) (.seq .none (.seq (.block (.seq .none (.seq (.seq .none .none) (.seq .none (.seq (.seq .none .none) .none))))) (.seq (.draw [.op 0 .pure, .op 1 .pure, .op 2 .pure, .op 4 .pure, .op 5 .pure, .op 3 .load, .op 6 .eff, .op 7 .eff]) (.seq .none (.seq .none (.seq .none .none))))))))
theorem T10_ok : chkFn prog Try.f10 T10 = true := by kernel_rfl
def B10 (p_p0 n_p1 b_p2 : Value) (w : World) (K : Value → World → Prop) : Prop :=
  Calls prog 25 #[p_p0, n_p1] w (Ret fun t_0 w =>
  pvv prog (oEq .neq 24 (.tmp 13) (.const (.int .i64 0)) t_0 (.int .i64 0)) w fun t_1 w =>
  cd t_1 (
    K t_0 w) <|
  pv prog (oNil p_p0) w fun t_2 w =>
  pvv prog (Instr.fieldAt 65 t_2 2) w fun t_3 w =>
  ldv prog (Instr.loadAt 62 t_3) w fun t_4 w =>
  ldv prog (Instr.lookup 62 t_4 n_p1 true) w fun t_5 w =>
  pvv prog (Instr.extract t_5 0) w fun t_6 w =>
  pvv prog (Instr.extract t_5 1) w fun t_7 w =>
  pv prog (oBi .len #[33] 3 #[false] #[b_p2]) w fun t_8 w =>
  pvv prog (oEq .neq 3 (.tmp 27) (.const (.int .i64 256)) t_8 (.int .i64 256)) w fun t_9 w =>
  cd t_9 (
    K (.int .i64 3) w) <|
  pvv prog (Op.unary .not t_7) w fun t_10 w =>
  gate (some (t_10, true)) (fun K => K p_p0 w) w fun t_11 w =>
  gate (some (t_10, true)) (fun K => pv prog (oNil t_11) w K) w fun t_12 w =>
  gate (some (t_10, true)) (fun K => pvv prog (Instr.fieldAt 65 t_12 2) w K) w fun t_13 w =>
  gate (some (t_10, true)) (fun K => ldv prog (Instr.loadAt 62 t_13) w K) w fun t_14 w =>
  gate (some (t_10, true)) (fun K => ld prog (oBi .len #[62] 3 #[false] #[t_14]) w K) w fun t_15 w =>
  gate (some (t_10, true)) (fun K => pvv prog (binOp .geq 3 t_15 (.int .i64 100)) w K) w fun t_16 w =>
  pv prog (oPick t_10 t_16 (.bool false)) w fun t_17 w =>
  cd t_17 (
    K (.int .i64 6) w) <|
  dr w fun w =>
  pv prog (oNil p_p0) w fun t_18 w =>
  pvv prog (Instr.fieldAt 65 t_18 2) w fun t_19 w =>
  bindS (vN (Instr.loadAt 62 t_19)) fun m_21 => ldv prog (Instr.loadAt 62 t_19) w fun t_20 w =>
  Calls prog 26 #[b_p2] w (Ret fun t_22 w => stay prog none m_21 t_20 w <| 
  efu prog (Instr.mapUpdate 62 t_20 n_p1 t_22) w fun u_23 w =>
  Calls prog 27 #[p_p0, n_p1] w (Ret fun t_24 w =>
  pv prog (oNil p_p0) w fun t_25 w =>
  pvv prog (Instr.fieldAt 65 t_25 5) w fun t_26 w =>
  ldv prog (Instr.loadAt 63 t_26) w fun t_27 w =>
  ef prog (oBi .delete #[63, 3] 0 #[false, false] #[t_27, n_p1]) w fun u_28 w =>
  K (.int .i64 0) w)))
theorem B10_eq (p_p0 n_p1 b_p2 : Value) (w : World) (K : Value → World → Prop) : denFn prog Try.f10 T10 [p_p0, n_p1, b_p2] w K = B10 p_p0 n_p1 b_p2 w K := by kernel_rfl
theorem c10 {p_p0 n_p1 b_p2 : Value} {w : World} {K : Value → World → Prop} (h : B10 p_p0 n_p1 b_p2 w K) : Calls prog 10 #[p_p0, n_p1, b_p2] w (Ret K) :=
  denFn_calls Try.func10 T10_ok (Eq.mpr (B10_eq p_p0 n_p1 b_p2 w K) h)

-- 74 slices.choosePivotOrdered[int]
def T74 : Ann := (.seq .none (.seq .none (.seq .none (.seq .none (.seq .none (.seq .none (.meet 562947805944832 [11] (.seq .none (.seq (.meet 17583596116992 [10, 11, 12] (.seq .none (.seq (.seq .none (.seq .none .none)) .none)) .none) .none)) (.seq .none (.block (.seq .none (.seq (.seq .none .none) (.seq .none (.seq (.seq .none .none) (.seq .none .none))))))))))))))
theorem T74_ok : chkFn prog Try.f74 T74 = true := by kernel_rfl
def B74 (data_p0 a_p1 b_p2 : Value) (w : World) (K : Value → World → Prop) : Prop :=
  pvv prog (binOp .sub 3 b_p2 a_p1) w fun t_0 w =>
  efv prog (Instr.alloc 3 true (.tuple #[])) w fun swaps_1 w =>
  pvv prog (binOp .quo 3 t_0 (.int .i64 4)) w fun t_2 w =>
  pvv prog (binOp .mul 3 t_2 (.int .i64 1)) w fun t_3 w =>
  pvv prog (binOp .add 3 a_p1 t_3) w fun t_4 w =>
  pvv prog (binOp .quo 3 t_0 (.int .i64 4)) w fun t_5 w =>
  pvv prog (binOp .mul 3 t_5 (.int .i64 2)) w fun t_6 w =>
  pvv prog (binOp .add 3 a_p1 t_6) w fun t_7 w =>
  pvv prog (binOp .quo 3 t_0 (.int .i64 4)) w fun t_8 w =>
  pvv prog (binOp .mul 3 t_8 (.int .i64 3)) w fun t_9 w =>
  pvv prog (binOp .add 3 a_p1 t_9) w fun t_10 w =>
  jn (fun σ w => pop σ fun j_11 σ => fin σ <|
    ldv prog (Instr.loadAt 3 swaps_1) w fun t_12 w =>
    pvv prog (oEq .eql 3 (.tmp 49) (.const (.int .i64 0)) t_12 (.int .i64 0)) w fun t_13 w =>
    cd t_13 (
      K (.tuple #[j_11, (.int .i64 1)]) w) <|
    pvv prog (oEq .eql 3 (.tmp 49) (.const (.int .i64 12)) t_12 (.int .i64 12)) w fun t_14 w =>
    cd t_14 (
      K (.tuple #[j_11, (.int .i64 2)]) w) <|
    K (.tuple #[j_11, (.int .i64 0)]) w) fun k_15 =>
  pvv prog (binOp .geq 3 t_0 (.int .i64 8)) w fun t_16 w =>
  cd t_16 (
    jn (fun σ w => pop σ fun i_17 σ => pop σ fun j_18 σ => pop σ fun k_19 σ => fin σ <|
      Calls prog 87 #[data_p0, i_17, j_18, k_19, swaps_1] w (Ret fun t_20 w =>
      k_15 [t_20] w)) fun k_21 =>
    pvv prog (binOp .geq 3 t_0 (.int .i64 50)) w fun t_22 w =>
    cd t_22 (
      Calls prog 86 #[data_p0, t_4, swaps_1] w (Ret fun t_23 w =>
      Calls prog 86 #[data_p0, t_7, swaps_1] w (Ret fun t_24 w =>
      Calls prog 86 #[data_p0, t_10, swaps_1] w (Ret fun t_25 w =>
      k_21 [t_23, t_24, t_25] w)))) <|
    k_21 [t_4, t_7, t_10] w) <|
  k_15 [t_7] w
theorem B74_eq (data_p0 a_p1 b_p2 : Value) (w : World) (K : Value → World → Prop) : denFn prog Try.f74 T74 [data_p0, a_p1, b_p2] w K = B74 data_p0 a_p1 b_p2 w K := by kernel_rfl
theorem c74 {data_p0 a_p1 b_p2 : Value} {w : World} {K : Value → World → Prop} (h : B74 data_p0 a_p1 b_p2 w K) : Calls prog 74 #[data_p0, a_p1, b_p2] w (Ret K) :=
  denFn_calls Try.func74 T74_ok (Eq.mpr (B74_eq data_p0 a_p1 b_p2 w K) h)

-- 23 (*holdfast/block.Disk).Fork
def T23 : Ann := (.seq .none (.seq (.seq .none (.seq (.seq .none .none) .none)) (.seq (.draw [.op 0 .pure, .op 1 .pure, .op 2 .pure, .op 5 .pure, .op 6 .pure, .op 7 .pure, .op 3 .load, .op 8 .load, .op 4 .eff, .op 9 .eff, .op 10 .pure, .op 11 .eff, .op 12 .pure]) (.seq (.draw [.op 0 .pure, .op 1 .pure, .op 2 .pure, .op 3 .pure, .op 4 .pure, .op 5 .pure, .op 6 .eff, .op 7 .eff]) (.seq .none .none)))))
theorem T23_ok : chkFn prog Try.f23 T23 = true := by kernel_rfl
def B23 (d_p0 : Value) (w : World) (K : Value → World → Prop) : Prop :=
  pvv prog (oEq .eql 23 (.tmp 4) (.const (.pointer none)) d_p0 (.pointer none)) w fun t_0 w =>
  cd t_0 (
    K (.pointer none) w) <|
  dr w fun w =>
  pv prog (oNil d_p0) w fun t_1 w =>
  pvv prog (Instr.fieldAt 51 t_1 0) w fun t_2 w =>
  pv prog (oNil d_p0) w fun t_3 w =>
  pvv prog (Instr.fieldAt 51 t_3 1) w fun t_4 w =>
  bindS (vN (Instr.loadAt 22 t_2)) fun m_6 => ldv prog (Instr.loadAt 22 t_2) w fun t_5 w =>
  bindS (vN (Instr.loadAt 44 t_4)) fun m_8 => ldv prog (Instr.loadAt 44 t_4) w fun t_7 w =>
  Calls prog 40 #[t_5] w (Ret fun t_9 w => stay prog none m_8 t_7 w <| 
  Calls prog 41 #[t_7] w (Ret fun t_10 w => stay prog none m_6 t_5 w <| 
  pvv prog (Instr.build 51 #[(0, t_9), (1, t_10)]) w fun t_11 w =>
  efv prog (Instr.box 51 t_11) w fun t_12 w => stay prog none m_8 t_7 w <| stay prog none m_6 t_5 w <| 
  dr w fun w =>
  pv prog (oNil t_12) w fun t_13 w =>
  pvv prog (Instr.fieldAt 51 t_13 2) w fun t_14 w =>
  pv prog (oNil d_p0) w fun t_15 w =>
  pvv prog (Instr.fieldAt 51 t_15 2) w fun t_16 w =>
  Calls prog 24 #[t_16] w (Ret fun t_17 w =>
  Calls prog 42 #[t_14, t_17] w (Ret fun t_18 w =>
  K t_12 w))))
theorem B23_eq (d_p0 : Value) (w : World) (K : Value → World → Prop) : denFn prog Try.f23 T23 [d_p0] w K = B23 d_p0 w K := by kernel_rfl
theorem c23 {d_p0 : Value} {w : World} {K : Value → World → Prop} (h : B23 d_p0 w K) : Calls prog 23 #[d_p0] w (Ret K) :=
  denFn_calls Try.func23 T23_ok (Eq.mpr (B23_eq d_p0 w K) h)

-- 50 (*holdfast/wal.Log).Commit$1
def T50 : Ann := (.seq .none (.seq (.draw [.op 0 .pure, .op 1 .load, .op 2 .pure, .op 3 .pure, .op 4 .pure, .op 5 .load, .op 6 .load, .op 7 .eff, .op 8 .pure, .op 9 .pure, .op 10 .pure]) .none))
theorem T50_ok : chkFn prog Try.f50 T50 = true := by kernel_rfl
def B50 (p_p0 x_p1 : Value) (w : World) (K : Value → World → Prop) : Prop :=
  efv prog (Instr.box 77 p_p0) w fun p_0 w =>
  dr w fun w =>
  pvv prog (Instr.fieldAt 77 p_0 0) w fun t_1 w =>
  bindS (vN (Instr.loadAt 3 t_1)) fun m_3 => ldv prog (Instr.loadAt 3 t_1) w fun t_2 w =>
  pvv prog (binOp .lss 3 t_2 (.int .i64 0)) w fun t_4 w =>
  gate (some (t_4, false)) (fun K => pvv prog (Instr.fieldAt 77 p_0 0) w K) w fun t_5 w =>
  bindS (vN (Instr.loadAt 3 t_5)) fun m_7 => gate (some (t_4, false)) (fun K => ldv prog (Instr.loadAt 3 t_5) w K) w fun t_6 w =>
  bindS (vN (Instr.loadAt 27 x_p1)) fun m_9 => gate (some (t_4, false)) (fun K => ldv prog (Instr.loadAt 27 x_p1) w K) w fun t_8 w =>
  gate (some (t_4, false)) (fun K => Calls prog 39 #[t_8] w (Ret fun s_13 w => stay prog (some (t_4, false)) m_7 t_6 w <| stay prog none m_3 t_2 w <| K s_13 w)) w fun t_10 w =>
  gate (some (t_4, false)) (fun K => pvv prog (binOp .geq 3 t_6 t_10) w K) w fun t_11 w =>
  pv prog (oPick t_4 (.bool true) t_11) w fun t_12 w =>
  K t_12 w
theorem B50_eq (p_p0 x_p1 : Value) (w : World) (K : Value → World → Prop) : denFn prog Try.f50 T50 [p_p0, x_p1] w K = B50 p_p0 x_p1 w K := by kernel_rfl
theorem c50 {p_p0 x_p1 : Value} {w : World} {K : Value → World → Prop} (h : B50 p_p0 x_p1 w K) : Calls prog 50 #[p_p0, x_p1] w (Ret K) :=
  denFn_calls Try.func50 T50_ok (Eq.mpr (B50_eq p_p0 x_p1 w K) h)

-- 6 holdfast/pager.New
def T6 : Ann := (.seq .none (.seq (.block (.seq .none (.seq (.seq .none .none) (.seq .none (.seq (.seq .none .none) .none))))) (.seq .none .none)))
theorem T6_ok : chkFn prog Try.f6 T6 = true := by kernel_rfl
def B6 (l_p0 most_p1 : Value) (w : World) (K : Value → World → Prop) : Prop :=
  pvv prog (oEq .eql 27 (.tmp 7) (.const (.pointer none)) l_p0 (.pointer none)) w fun t_0 w =>
  cd t_0 (
    K (.tuple #[(.pointer none), (.int .i64 1)]) w) <|
  pvv prog (binOp .lss 3 most_p1 (.int .i64 1)) w fun t_1 w =>
  gate (some (t_1, false)) (fun K => K most_p1 w) w fun t_2 w =>
  gate (some (t_1, false)) (fun K => pvv prog (binOp .gtr 3 t_2 (.int .i64 64)) w K) w fun t_3 w =>
  pv prog (oPick t_1 (.bool true) t_3) w fun t_4 w =>
  cd t_4 (
    K (.tuple #[(.pointer none), (.int .i64 2)]) w) <|
  efv prog (Instr.makeMap 62 none) w fun t_5 w =>
  efv prog (Instr.makeMap 62 none) w fun t_6 w =>
  efv prog (Instr.makeMap 63 none) w fun t_7 w =>
  pvv prog (Instr.build 65 #[(0, l_p0), (1, most_p1), (2, t_5), (3, t_6), (5, t_7)]) w fun t_8 w =>
  efv prog (Instr.box 65 t_8) w fun t_9 w =>
  K (.tuple #[t_9, (.int .i64 0)]) w
theorem B6_eq (l_p0 most_p1 : Value) (w : World) (K : Value → World → Prop) : denFn prog Try.f6 T6 [l_p0, most_p1] w K = B6 l_p0 most_p1 w K := by kernel_rfl
theorem c6 {l_p0 most_p1 : Value} {w : World} {K : Value → World → Prop} (h : B6 l_p0 most_p1 w K) : Calls prog 6 #[l_p0, most_p1] w (Ret K) :=
  denFn_calls Try.func6 T6_ok (Eq.mpr (B6_eq l_p0 most_p1 w K) h)

-- 56 slices.Backward[[]holdfast/block.write,holdfast/block.write]$1
def T56 : Ann := (.seq .none (.block (.loop 524168 [3] (.seq (.seq .none (.seq .none .none)) (.seq (.block (.seq .none (.seq .none .none))) .none)))))
theorem T56_ok : chkFn prog Try.f56 T56 = true := by kernel_rfl
def B56 (yield_p0 x_p1 : Value) (w : World) (K : Value → World → Prop) : Prop :=
  ldv prog (Instr.loadAt 44 x_p1) w fun t_0 w =>
  pv prog (oBi .len #[44] 3 #[false] #[t_0]) w fun t_1 w =>
  pvv prog (binOp .sub 3 t_1 (.int .i64 1)) w fun t_2 w =>
  lp (fun σ w again_4 => pop σ fun i_3 σ => fin σ <|
    pvv prog (binOp .geq 3 i_3 (.int .i64 0)) w fun t_5 w =>
    cd t_5 (
      ldv prog (Instr.loadAt 44 x_p1) w fun t_6 w =>
      pvv prog (Instr.indexAt 44 t_6 i_3) w fun t_7 w =>
      ldv prog (Instr.loadAt 84 t_7) w fun t_8 w =>
      ef prog (oCall yield_p0 #[i_3, t_8]) w fun t_9 w =>
      pvv prog (Op.unary .not t_9) w fun t_10 w =>
      cd t_10 (
        K (.tuple #[]) w) <|
      pvv prog (binOp .sub 3 i_3 (.int .i64 1)) w fun t_11 w =>
      again_4 [t_11] w) <|
    K (.tuple #[]) w) [t_2] w
theorem B56_eq (yield_p0 x_p1 : Value) (w : World) (K : Value → World → Prop) : denFn prog Try.f56 T56 [yield_p0, x_p1] w K = B56 yield_p0 x_p1 w K := by kernel_rfl
theorem c56 {yield_p0 x_p1 : Value} {w : World} {K : Value → World → Prop} (h : B56 yield_p0 x_p1 w K) : Calls prog 56 #[yield_p0, x_p1] w (Ret K) :=
  denFn_calls Try.func56 T56_ok (Eq.mpr (B56_eq yield_p0 x_p1 w K) h)

-- 87 slices.medianOrdered[int]
def T87 : Ann := (.seq .none (.seq .none (.seq .none (.seq .none (.seq .none .none)))))
theorem T87_ok : chkFn prog Try.f87 T87 = true := by kernel_rfl
def B87 (data_p0 a_p1 b_p2 c_p3 swaps_p4 : Value) (w : World) (K : Value → World → Prop) : Prop :=
  Calls prog 89 #[data_p0, a_p1, b_p2, swaps_p4] w (Ret fun t_0 w =>
  pvv prog (Instr.extract t_0 0) w fun t_1 w =>
  pvv prog (Instr.extract t_0 1) w fun t_2 w =>
  Calls prog 89 #[data_p0, t_2, c_p3, swaps_p4] w (Ret fun t_3 w =>
  pvv prog (Instr.extract t_3 0) w fun t_4 w =>
  pvv prog (Instr.extract t_3 1) w fun t_5 w =>
  Calls prog 89 #[data_p0, t_1, t_4, swaps_p4] w (Ret fun t_6 w =>
  pvv prog (Instr.extract t_6 0) w fun t_7 w =>
  pvv prog (Instr.extract t_6 1) w fun t_8 w =>
  K t_8 w)))
theorem B87_eq (data_p0 a_p1 b_p2 c_p3 swaps_p4 : Value) (w : World) (K : Value → World → Prop) : denFn prog Try.f87 T87 [data_p0, a_p1, b_p2, c_p3, swaps_p4] w K = B87 data_p0 a_p1 b_p2 c_p3 swaps_p4 w K := by kernel_rfl
theorem c87 {data_p0 a_p1 b_p2 c_p3 swaps_p4 : Value} {w : World} {K : Value → World → Prop} (h : B87 data_p0 a_p1 b_p2 c_p3 swaps_p4 w K) : Calls prog 87 #[data_p0, a_p1, b_p2, c_p3, swaps_p4] w (Ret K) :=
  denFn_calls Try.func87 T87_ok (Eq.mpr (B87_eq data_p0 a_p1 b_p2 c_p3 swaps_p4 w K) h)

-- 82 maps.Keys[map[int]int,int,int]$1
def T82 : Ann := (.seq .none (.block (.loop 16328 [] (.seq .none (.seq (.seq .none .none) (.block (.seq .none (.seq .none (.seq .none .none)))))))))
theorem T82_ok : chkFn prog Try.f82 T82 = true := by kernel_rfl
def B82 (yield_p0 x_p1 : Value) (w : World) (K : Value → World → Prop) : Prop :=
  ldv prog (Instr.loadAt 56 x_p1) w fun t_0 w =>
  efv prog (Instr.range 56 t_0) w fun t_1 w =>
  lp (fun σ w again_2 => fin σ <|
    efv prog (Instr.next t_1 false 0) w fun t_3 w =>
    pvv prog (Instr.extract t_3 0) w fun t_4 w =>
    cd t_4 (
      efv prog (Instr.entry t_1) w fun t_5 w =>
      pvv prog (Instr.extract t_5 0) w fun t_6 w =>
      ef prog (oCall yield_p0 #[t_6]) w fun t_7 w =>
      pvv prog (Op.unary .not t_7) w fun t_8 w =>
      cd t_8 (
        K (.tuple #[]) w) <|
      again_2 [] w) <|
    K (.tuple #[]) w) [] w
theorem B82_eq (yield_p0 x_p1 : Value) (w : World) (K : Value → World → Prop) : denFn prog Try.f82 T82 [yield_p0, x_p1] w K = B82 yield_p0 x_p1 w K := by kernel_rfl
theorem c82 {yield_p0 x_p1 : Value} {w : World} {K : Value → World → Prop} (h : B82 yield_p0 x_p1 w K) : Calls prog 82 #[yield_p0, x_p1] w (Ret K) :=
  denFn_calls Try.func82 T82_ok (Eq.mpr (B82_eq yield_p0 x_p1 w K) h)

-- 64 slices.AppendSeq[[]int,int]
def T64 : Ann := (.seq .none (.seq (.seq .none (.block (.range .none (.block .none)))) (.seq .none .none)))
theorem T64_ok : chkFn prog Try.f64 T64 = true := by kernel_rfl
def B64 (s_p0 seq_p1 : Value) (w : World) (K : Value → World → Prop) : Prop :=
  efv prog (Instr.box 38 s_p0) w fun s_0 w =>
  rng prog 1 seq_p1 (fun σ w bg_2 ex_3 => pop σ fun t_1 σ => fin σ <|
    bg_2 w fun w =>
    ldv prog (Instr.loadAt 38 s_0) w fun t_4 w =>
    efv prog (Instr.buildSlice 38 1 #[(0, t_1)]) w fun t_5 w =>
    ef prog (oBi .append #[38, 38] 38 #[false, false] #[t_4, t_5]) w fun t_6 w =>
    efu prog (Instr.storeAt 38 s_0 t_6) w fun u_7 w =>
    ex_3 .normal w) w fun p_9 D_8 w =>
  jump (
    ldv prog (Instr.loadAt 38 s_0) w fun t_10 w =>
    und [D_8] w fun w => K t_10 w) (
    und [D_8] w fun w => K (.slice none 0 0) w) [] p_9
theorem B64_eq (s_p0 seq_p1 : Value) (w : World) (K : Value → World → Prop) : denFn prog Try.f64 T64 [s_p0, seq_p1] w K = B64 s_p0 seq_p1 w K := by kernel_rfl
theorem c64 {s_p0 seq_p1 : Value} {w : World} {K : Value → World → Prop} (h : B64 s_p0 seq_p1 w K) : Calls prog 64 #[s_p0, seq_p1] w (Ret K) :=
  denFn_calls Try.func64 T64_ok (Eq.mpr (B64_eq s_p0 seq_p1 w K) h)

-- 51 holdfast/wal.Need
def T51 : Ann := (.seq .none (.seq (.seq .none (.seq (.seq .none .none) .none)) (.seq .none .none)))
theorem T51_ok : chkFn prog Try.f51 T51 = true := by kernel_rfl
def B51 (pages_p0 : Value) (w : World) (K : Value → World → Prop) : Prop :=
  pvv prog (binOp .lss 3 pages_p0 (.int .i64 1)) w fun t_0 w =>
  gate (some (t_0, false)) (fun K => K pages_p0 w) w fun t_1 w =>
  gate (some (t_0, false)) (fun K => pvv prog (binOp .gtr 3 t_1 (.int .i64 100)) w K) w fun t_2 w =>
  pv prog (oPick t_0 (.bool true) t_2) w fun t_3 w =>
  cd t_3 (
    K (.int .i64 0) w) <|
  pvv prog (binOp .add 3 pages_p0 (.int .i64 1)) w fun t_4 w =>
  K t_4 w
theorem B51_eq (pages_p0 : Value) (w : World) (K : Value → World → Prop) : denFn prog Try.f51 T51 [pages_p0] w K = B51 pages_p0 w K := by kernel_rfl
theorem c51 {pages_p0 : Value} {w : World} {K : Value → World → Prop} (h : B51 pages_p0 w K) : Calls prog 51 #[pages_p0] w (Ret K) :=
  denFn_calls Try.func51 T51_ok (Eq.mpr (B51_eq pages_p0 w K) h)

-- 17 (*holdfast/block.Disk).Image
def T17 : Ann := (.seq .none (.seq (.seq .none (.seq (.seq .none .none) .none)) (.seq .none .none)))
theorem T17_ok : chkFn prog Try.f17 T17 = true := by kernel_rfl
def B17 (d_p0 : Value) (w : World) (K : Value → World → Prop) : Prop :=
  pvv prog (oEq .eql 23 (.tmp 3) (.const (.pointer none)) d_p0 (.pointer none)) w fun t_0 w =>
  cd t_0 (
    K (.slice none 0 0) w) <|
  pv prog (oNil d_p0) w fun t_1 w =>
  pvv prog (Instr.fieldAt 51 t_1 0) w fun t_2 w =>
  ldv prog (Instr.loadAt 22 t_2) w fun t_3 w =>
  Calls prog 32 #[t_3] w (Ret fun t_4 w =>
  K t_4 w)
theorem B17_eq (d_p0 : Value) (w : World) (K : Value → World → Prop) : denFn prog Try.f17 T17 [d_p0] w K = B17 d_p0 w K := by kernel_rfl
theorem c17 {d_p0 : Value} {w : World} {K : Value → World → Prop} (h : B17 d_p0 w K) : Calls prog 17 #[d_p0] w (Ret K) :=
  denFn_calls Try.func17 T17_ok (Eq.mpr (B17_eq d_p0 w K) h)

-- 60 (*holdfast/pager.Pager).use$1
def T60 : Ann := (.seq .none (.seq .none .none))
theorem T60_ok : chkFn prog Try.f60 T60 = true := by kernel_rfl
def B60 (k_p0 x_p1 : Value) (w : World) (K : Value → World → Prop) : Prop :=
  ldv prog (Instr.loadAt 30 x_p1) w fun t_0 w =>
  pv prog (oNil t_0) w fun t_1 w =>
  pvv prog (Instr.fieldAt 65 t_1 5) w fun t_2 w =>
  ldv prog (Instr.loadAt 63 t_2) w fun t_3 w =>
  ldv prog (Instr.lookup 63 t_3 k_p0 false) w fun t_4 w =>
  pvv prog (Op.unary .not t_4) w fun t_5 w =>
  K t_5 w
theorem B60_eq (k_p0 x_p1 : Value) (w : World) (K : Value → World → Prop) : denFn prog Try.f60 T60 [k_p0, x_p1] w K = B60 k_p0 x_p1 w K := by kernel_rfl
theorem c60 {k_p0 x_p1 : Value} {w : World} {K : Value → World → Prop} (h : B60 k_p0 x_p1 w K) : Calls prog 60 #[k_p0, x_p1] w (Ret K) :=
  denFn_calls Try.func60 T60_ok (Eq.mpr (B60_eq k_p0 x_p1 w K) h)

-- 7 (*holdfast/pager.Pager).Log
def T7 : Ann := (.seq .none (.seq (.seq .none (.seq (.seq .none .none) .none)) (.seq .none .none)))
theorem T7_ok : chkFn prog Try.f7 T7 = true := by kernel_rfl
def B7 (p_p0 : Value) (w : World) (K : Value → World → Prop) : Prop :=
  pvv prog (oEq .eql 30 (.tmp 3) (.const (.pointer none)) p_p0 (.pointer none)) w fun t_0 w =>
  cd t_0 (
    K (.pointer none) w) <|
  pv prog (oNil p_p0) w fun t_1 w =>
  pvv prog (Instr.fieldAt 65 t_1 0) w fun t_2 w =>
  ldv prog (Instr.loadAt 27 t_2) w fun t_3 w =>
  K t_3 w
theorem B7_eq (p_p0 : Value) (w : World) (K : Value → World → Prop) : denFn prog Try.f7 T7 [p_p0] w K = B7 p_p0 w K := by kernel_rfl
theorem c7 {p_p0 : Value} {w : World} {K : Value → World → Prop} (h : B7 p_p0 w K) : Calls prog 7 #[p_p0] w (Ret K) :=
  denFn_calls Try.func7 T7_ok (Eq.mpr (B7_eq p_p0 w K) h)

-- 84 slices.nextPowerOfTwo
def T84 : Ann := (.seq .none (.seq .none .none))
theorem T84_ok : chkFn prog Try.f84 T84 = true := by kernel_rfl
def B84 (length_p0 : Value) (w : World) (K : Value → World → Prop) : Prop :=
  pvv prog (convert 3 89 length_p0) w fun t_0 w =>
  Calls prog 66 #[t_0] w (Ret fun t_1 w =>
  pvv prog (binOp .shl 89 (.int .u64 1) t_1) w fun t_2 w =>
  K t_2 w)
theorem B84_eq (length_p0 : Value) (w : World) (K : Value → World → Prop) : denFn prog Try.f84 T84 [length_p0] w K = B84 length_p0 w K := by kernel_rfl
theorem c84 {length_p0 : Value} {w : World} {K : Value → World → Prop} (h : B84 length_p0 w K) : Calls prog 84 #[length_p0] w (Ret K) :=
  denFn_calls Try.func84 T84_ok (Eq.mpr (B84_eq length_p0 w K) h)

-- 45 (*holdfast/pager.Pager).drop$1
def T45 : Ann := (.seq .none (.seq .none .none))
theorem T45_ok : chkFn prog Try.f45 T45 = true := by kernel_rfl
def B45 (k_p0 x_p1 : Value) (w : World) (K : Value → World → Prop) : Prop :=
  ldv prog (Instr.loadAt 3 x_p1) w fun t_0 w =>
  pvv prog (oEq .eql 3 (.tmp 4) (.tmp 5) k_p0 t_0) w fun t_1 w =>
  K t_1 w
theorem B45_eq (k_p0 x_p1 : Value) (w : World) (K : Value → World → Prop) : denFn prog Try.f45 T45 [k_p0, x_p1] w K = B45 k_p0 x_p1 w K := by kernel_rfl
theorem c45 {k_p0 x_p1 : Value} {w : World} {K : Value → World → Prop} (h : B45 k_p0 x_p1 w K) : Calls prog 45 #[k_p0, x_p1] w (Ret K) :=
  denFn_calls Try.func45 T45_ok (Eq.mpr (B45_eq k_p0 x_p1 w K) h)

-- 33 slices.Backward[[]holdfast/block.write,holdfast/block.write]
def T33 : Ann := (.seq .none (.seq .none .none))
theorem T33_ok : chkFn prog Try.f33 T33 = true := by kernel_rfl
def B33 (s_p0 : Value) (w : World) (K : Value → World → Prop) : Prop :=
  efv prog (Instr.box 44 s_p0) w fun s_0 w =>
  pvv prog (Instr.makeFunc (.func 56) #[] #[s_0]) w fun t_1 w =>
  K t_1 w
theorem B33_eq (s_p0 : Value) (w : World) (K : Value → World → Prop) : denFn prog Try.f33 T33 [s_p0] w K = B33 s_p0 w K := by kernel_rfl
theorem c33 {s_p0 : Value} {w : World} {K : Value → World → Prop} (h : B33 s_p0 w K) : Calls prog 33 #[s_p0] w (Ret K) :=
  denFn_calls Try.func33 T33_ok (Eq.mpr (B33_eq s_p0 w K) h)

-- 38 holdfast/wal.zeros$1
def T38 : Ann := (.seq .none (.seq .none .none))
theorem T38_ok : chkFn prog Try.f38 T38 = true := by kernel_rfl
def B38 (x_p0 : Value) (w : World) (K : Value → World → Prop) : Prop :=
  pvv prog (oEq .neq 5 (.tmp 3) (.const (.int .u8 0)) x_p0 (.int .u8 0)) w fun t_0 w =>
  K t_0 w
theorem B38_eq (x_p0 : Value) (w : World) (K : Value → World → Prop) : denFn prog Try.f38 T38 [x_p0] w K = B38 x_p0 w K := by kernel_rfl
theorem c38 {x_p0 : Value} {w : World} {K : Value → World → Prop} (h : B38 x_p0 w K) : Calls prog 38 #[x_p0] w (Ret K) :=
  denFn_calls Try.func38 T38_ok (Eq.mpr (B38_eq x_p0 w K) h)


end Go.Proofs.Ytcjklbhobmkalaa
