import Derived.Test.YtgkeplodfkmnlaaGreatPI
set_option linter.all false
set_option maxRecDepth 100000
namespace Go.Proofs.YtgkeplodfkmnlaaGreat
open Go Hold
-- 103 slices.partialInsertionSortOrdered[int]
def T103 : Ann := (.seq .none (.seq .none (.seq (.seq .none (.block (.loop 10889035741470030830827987437816582760384 [7, 8] (.seq (.seq .none (.seq .none .none)) (.meet 10889035741470030830827987437816582637248 [7] (.block (.seq (.block (.loop 34359607424 [7] (.seq (.seq (.draw [.op 0 .pure, .op 1 .pure, .op 2 .pure, .op 3 .pure, .op 4 .pure, .op 5 .pure, .op 6 .pure, .op 8 .pure, .op 9 .pure, .op 10 .pure, .op 11 .pure, .op 7 .load, .op 12 .load, .op 13 .eff, .op 14 .pure, .op 15 .pure]) (.seq .none .none)) (.block .none)))) (.seq (.seq .none (.seq (.seq .none .none) .none)) (.seq (.seq .none (.seq (.seq .none .none) .none)) (.seq (.draw [.op 0 .pure, .op 1 .pure, .op 2 .pure, .op 3 .pure, .op 4 .pure, .op 5 .pure, .op 6 .pure, .op 7 .pure, .op 8 .pure, .op 10 .pure, .op 11 .pure, .op 12 .pure, .op 9 .load, .op 13 .load, .op 14 .pure, .op 15 .eff, .op 16 .pure, .op 17 .eff]) (.meet 39614081256843938420620263936 [] (.seq .none (.seq (.seq .none (.block (.loop 39614081238685424723062424064 [9] (.seq (.seq .none (.seq .none .none)) (.seq (.block (.seq (.seq (.draw [.op 0 .pure, .op 1 .pure, .op 2 .pure, .op 4 .pure, .op 5 .pure, .op 6 .pure, .op 7 .pure, .op 3 .load, .op 8 .load, .op 9 .eff, .op 10 .pure]) (.seq .none .none)) (.draw [.op 0 .pure, .op 1 .pure, .op 2 .pure, .op 3 .pure, .op 4 .pure, .op 5 .pure, .op 6 .pure, .op 7 .pure, .op 8 .pure, .op 10 .pure, .op 11 .pure, .op 12 .pure, .op 9 .load, .op 13 .load, .op 14 .pure, .op 15 .eff, .op 16 .pure, .op 17 .eff]))) .none))))) .none)) (.seq .none (.seq (.seq .none (.block (.loop 10889035738934729630371528634823176356864 [10] (.seq (.seq .none (.seq .none .none)) (.seq (.block (.seq (.seq (.draw [.op 0 .pure, .op 1 .pure, .op 2 .pure, .op 4 .pure, .op 5 .pure, .op 6 .pure, .op 7 .pure, .op 3 .load, .op 8 .load, .op 9 .eff, .op 10 .pure]) (.seq .none .none)) (.draw [.op 0 .pure, .op 1 .pure, .op 2 .pure, .op 3 .pure, .op 4 .pure, .op 5 .pure, .op 6 .pure, .op 7 .pure, .op 8 .pure, .op 10 .pure, .op 11 .pure, .op 12 .pure, .op 9 .load, .op 13 .load, .op 14 .pure, .op 15 .eff, .op 16 .pure, .op 17 .eff]))) .none))))) .none)))))))) .none))))) (.seq .none .none))))
theorem T103_ok : chkFn prog Tryz.f103 T103 = true := by kernel_rfl
def B103 (data_p0 a_p1 b_p2 : Value) (w : World) (K : Value → World → Prop) : Prop :=
  pvv prog (binOp .add 3 a_p1 (.int .i64 1)) w fun t_0 w =>
  lp (fun σ w again_3 => pop σ fun i_1 σ => pop σ fun j_2 σ => fin σ <|
    pvv prog (binOp .lss 3 j_2 (.int .i64 5)) w fun t_4 w =>
    cd t_4 (
      jn (fun σ w => pop σ fun i_5 σ => fin σ <|
        pvv prog (binOp .add 3 j_2 (.int .i64 1)) w fun t_6 w =>
        again_3 [i_5, t_6] w) fun k_7 =>
      lp (fun σ w again_9 => pop σ fun i_8 σ => fin σ <|
        dr w fun w =>
        pvv prog (binOp .lss 3 i_8 b_p2) w fun t_10 w =>
        gate (some (t_10, true)) (fun K => K data_p0 w) w fun t_11 w =>
        gate (some (t_10, true)) (fun K => K i_8 w) w fun t_12 w =>
        gate (some (t_10, true)) (fun K => pvv prog (Instr.indexAt 29 t_11 t_12) w K) w fun t_13 w =>
        gate (some (t_10, true)) (fun K => K data_p0 w) w fun t_14 w =>
        gate (some (t_10, true)) (fun K => K i_8 w) w fun t_15 w =>
        gate (some (t_10, true)) (fun K => pvv prog (binOp .sub 3 t_15 (.int .i64 1)) w K) w fun t_16 w =>
        gate (some (t_10, true)) (fun K => pvv prog (Instr.indexAt 29 t_14 t_16) w K) w fun t_17 w =>
        bindS (vN (Instr.loadAt 3 t_13)) fun m_19 => gate (some (t_10, true)) (fun K => ldv prog (Instr.loadAt 3 t_13) w K) w fun t_18 w =>
        bindS (vN (Instr.loadAt 3 t_17)) fun m_21 => gate (some (t_10, true)) (fun K => ldv prog (Instr.loadAt 3 t_17) w K) w fun t_20 w =>
        gate (some (t_10, true)) (fun K => Calls prog 104 #[t_18, t_20] w (Ret fun s_106 w => K s_106 w)) w fun t_22 w =>
        gate (some (t_10, true)) (fun K => pvv prog (Op.unary .not t_22) w K) w fun t_23 w =>
        pv prog (oPick t_10 t_23 (.bool false)) w fun t_24 w =>
        cd t_24 (
          pvv prog (binOp .add 3 i_8 (.int .i64 1)) w fun t_25 w =>
          again_9 [t_25] w) <|
        pvv prog (oEq .eql 3 (.tmp 35) (.tmp 36) i_8 b_p2) w fun t_26 w =>
        cd t_26 (
          K (.bool true) w) <|
        pvv prog (binOp .sub 3 b_p2 a_p1) w fun t_27 w =>
        pvv prog (binOp .lss 3 t_27 (.int .i64 50)) w fun t_28 w =>
        cd t_28 (
          K (.bool false) w) <|
        dr w fun w =>
        pvv prog (binOp .sub 3 i_8 (.int .i64 1)) w fun t_29 w =>
        pvv prog (binOp .sub 3 i_8 (.int .i64 1)) w fun t_30 w =>
        pvv prog (Instr.indexAt 29 data_p0 t_30) w fun t_31 w =>
        pvv prog (Instr.indexAt 29 data_p0 i_8) w fun t_32 w =>
        bindS (vN (Instr.loadAt 3 t_31)) fun m_34 => ldv prog (Instr.loadAt 3 t_31) w fun t_33 w =>
        bindS (vN (Instr.loadAt 3 t_32)) fun m_36 => ldv prog (Instr.loadAt 3 t_32) w fun t_35 w =>
        pvv prog (Instr.indexAt 29 data_p0 i_8) w fun t_37 w =>
        efu prog (Instr.storeAt 3 t_37 t_33) w fun u_38 w =>
        pvv prog (Instr.indexAt 29 data_p0 t_29) w fun t_39 w =>
        efu prog (Instr.storeAt 3 t_39 t_35) w fun u_40 w =>
        jn (fun σ w => fin σ <|
          pvv prog (binOp .sub 3 b_p2 i_8) w fun t_41 w =>
          pvv prog (binOp .geq 3 t_41 (.int .i64 2)) w fun t_42 w =>
          cd t_42 (
            pvv prog (binOp .add 3 i_8 (.int .i64 1)) w fun t_43 w =>
            lp (fun σ w again_45 => pop σ fun j_44 σ => fin σ <|
              pvv prog (binOp .lss 3 j_44 b_p2) w fun t_46 w =>
              cd t_46 (
                dr w fun w =>
                pvv prog (Instr.indexAt 29 data_p0 j_44) w fun t_47 w =>
                pvv prog (binOp .sub 3 j_44 (.int .i64 1)) w fun t_48 w =>
                pvv prog (Instr.indexAt 29 data_p0 t_48) w fun t_49 w =>
                bindS (vN (Instr.loadAt 3 t_47)) fun m_51 => ldv prog (Instr.loadAt 3 t_47) w fun t_50 w =>
                bindS (vN (Instr.loadAt 3 t_49)) fun m_53 => ldv prog (Instr.loadAt 3 t_49) w fun t_52 w =>
                Calls prog 104 #[t_50, t_52] w (Ret fun t_54 w =>
                pvv prog (Op.unary .not t_54) w fun t_55 w =>
                cd t_55 (
                  k_7 [i_8] w) <|
                dr w fun w =>
                pvv prog (binOp .sub 3 j_44 (.int .i64 1)) w fun t_56 w =>
                pvv prog (binOp .sub 3 j_44 (.int .i64 1)) w fun t_57 w =>
                pvv prog (Instr.indexAt 29 data_p0 t_57) w fun t_58 w =>
                pvv prog (Instr.indexAt 29 data_p0 j_44) w fun t_59 w =>
                bindS (vN (Instr.loadAt 3 t_58)) fun m_61 => ldv prog (Instr.loadAt 3 t_58) w fun t_60 w =>
                bindS (vN (Instr.loadAt 3 t_59)) fun m_63 => ldv prog (Instr.loadAt 3 t_59) w fun t_62 w =>
                pvv prog (Instr.indexAt 29 data_p0 j_44) w fun t_64 w =>
                efu prog (Instr.storeAt 3 t_64 t_60) w fun u_65 w =>
                pvv prog (Instr.indexAt 29 data_p0 t_56) w fun t_66 w =>
                efu prog (Instr.storeAt 3 t_66 t_62) w fun u_67 w =>
                pvv prog (binOp .add 3 j_44 (.int .i64 1)) w fun t_68 w =>
                again_45 [t_68] w)) <|
              k_7 [i_8] w) [t_43] w) <|
          k_7 [i_8] w) fun k_72 =>
        pvv prog (binOp .sub 3 i_8 a_p1) w fun t_73 w =>
        pvv prog (binOp .geq 3 t_73 (.int .i64 2)) w fun t_74 w =>
        cd t_74 (
          pvv prog (binOp .sub 3 i_8 (.int .i64 1)) w fun t_75 w =>
          lp (fun σ w again_77 => pop σ fun j_76 σ => fin σ <|
            pvv prog (binOp .geq 3 j_76 (.int .i64 1)) w fun t_78 w =>
            cd t_78 (
              dr w fun w =>
              pvv prog (Instr.indexAt 29 data_p0 j_76) w fun t_79 w =>
              pvv prog (binOp .sub 3 j_76 (.int .i64 1)) w fun t_80 w =>
              pvv prog (Instr.indexAt 29 data_p0 t_80) w fun t_81 w =>
              bindS (vN (Instr.loadAt 3 t_79)) fun m_83 => ldv prog (Instr.loadAt 3 t_79) w fun t_82 w =>
              bindS (vN (Instr.loadAt 3 t_81)) fun m_85 => ldv prog (Instr.loadAt 3 t_81) w fun t_84 w =>
              Calls prog 104 #[t_82, t_84] w (Ret fun t_86 w =>
              pvv prog (Op.unary .not t_86) w fun t_87 w =>
              cd t_87 (
                k_72 [] w) <|
              dr w fun w =>
              pvv prog (binOp .sub 3 j_76 (.int .i64 1)) w fun t_88 w =>
              pvv prog (binOp .sub 3 j_76 (.int .i64 1)) w fun t_89 w =>
              pvv prog (Instr.indexAt 29 data_p0 t_89) w fun t_90 w =>
              pvv prog (Instr.indexAt 29 data_p0 j_76) w fun t_91 w =>
              bindS (vN (Instr.loadAt 3 t_90)) fun m_93 => ldv prog (Instr.loadAt 3 t_90) w fun t_92 w =>
              bindS (vN (Instr.loadAt 3 t_91)) fun m_95 => ldv prog (Instr.loadAt 3 t_91) w fun t_94 w =>
              pvv prog (Instr.indexAt 29 data_p0 j_76) w fun t_96 w =>
              efu prog (Instr.storeAt 3 t_96 t_92) w fun u_97 w =>
              pvv prog (Instr.indexAt 29 data_p0 t_88) w fun t_98 w =>
              efu prog (Instr.storeAt 3 t_98 t_94) w fun u_99 w =>
              pvv prog (binOp .sub 3 j_76 (.int .i64 1)) w fun t_100 w =>
              again_77 [t_100] w)) <|
            k_72 [] w) [t_75] w) <|
        k_72 [] w) [i_1] w) <|
    K (.bool false) w) [t_0, (.int .i64 0)] w
theorem B103_eq (data_p0 a_p1 b_p2 : Value) (w : World) (K : Value → World → Prop) : denFn prog Tryz.f103 T103 [data_p0, a_p1, b_p2] w K = B103 data_p0 a_p1 b_p2 w K := by kernel_rfl
theorem c103 {data_p0 a_p1 b_p2 : Value} {w : World} {K : Value → World → Prop} (h : B103 data_p0 a_p1 b_p2 w K) : Calls prog 103 #[data_p0, a_p1, b_p2] w (Ret K) :=
  denFn_calls Tryz.func103 T103_ok (Eq.mpr (B103_eq data_p0 a_p1 b_p2 w K) h)

-- 28 holdfast/holdfastref03.Open
def T28 : Ann := (.seq .none (.seq (.seq .none (.seq (.seq .none .none) .none)) (.seq (.seq .none (.seq (.seq .none .none) .none)) (.seq .none (.seq .none (.seq .none (.seq (.seq .none (.seq (.seq .none .none) .none)) (.seq (.seq .none (.seq (.seq .none .none) .none)) (.seq (.seq .none (.block (.loop 604460603964305373660160 [10] (.seq (.seq .none (.seq .none .none)) (.seq (.block (.draw [.op 0 .pure, .op 1 .pure, .op 2 .pure, .op 3 .pure, .op 6 .pure, .op 7 .pure, .op 8 .pure, .op 4 .load, .op 5 .pure, .op 9 .load, .op 10 .pure, .op 11 .pure, .op 12 .pure, .op 13 .pure, .op 14 .eff])) .none))))) (.seq .none (.seq (.seq .none (.seq (.seq .none .none) .none)) (.seq (.seq .none (.block (.loop 10384592479129615971680717759330352 [11] (.seq (.seq .none (.seq .none .none)) (.block (.seq .none (.seq (.seq .none (.seq (.seq .none .none) .none)) .none))))))) (.seq .none .none)))))))))))))
theorem T28_ok : chkFn prog Tryz.f28 T28 = true := by kernel_rfl
def B28 (d_p0 size_p1 : Value) (w : World) (K : Value → World → Prop) : Prop :=
  pvv prog (oEq .eql 55 (.tmp 14) (.const (.pointer none)) d_p0 (.pointer none)) w fun t_0 w =>
  cd t_0 (
    K (.tuple #[(.pointer none), (.int .i64 1)]) w) <|
  pvv prog (binOp .lss 3 size_p1 (.int .i64 2)) w fun t_1 w =>
  gate (some (t_1, false)) (fun K => K size_p1 w) w fun t_2 w =>
  gate (some (t_1, false)) (fun K => K d_p0 w) w fun t_3 w =>
  gate (some (t_1, false)) (fun K => Calls prog 58 #[t_3] w (Ret K)) w fun t_4 w =>
  gate (some (t_1, false)) (fun K => pvv prog (binOp .sub 3 t_4 (.int .i64 2)) w K) w fun t_5 w =>
  gate (some (t_1, false)) (fun K => pvv prog (binOp .gtr 3 t_2 t_5) w K) w fun t_6 w =>
  pv prog (oPick t_1 (.bool true) t_6) w fun t_7 w =>
  cd t_7 (
    K (.tuple #[(.pointer none), (.int .i64 2)]) w) <|
  Calls prog 60 #[d_p0] w (Ret fun t_8 w =>
  Calls prog 59 #[t_8] w (Ret fun t_9 w =>
  pvv prog (Instr.extract t_9 0) w fun t_10 w =>
  pvv prog (Instr.extract t_9 1) w fun t_11 w =>
  pvv prog (Instr.build 108 #[(0, t_10), (1, size_p1)]) w fun t_12 w =>
  efv prog (Instr.box 108 t_12) w fun t_13 w =>
  Calls prog 61 #[t_13, (.int .i64 0)] w (Ret fun t_14 w =>
  Calls prog 62 #[t_14, (.int .i64 0)] w (Ret fun t_15 w =>
  cd t_15 (
    K (.tuple #[t_13, (.int .i64 0)]) w) <|
  pvv prog (Instr.indexAt 60 t_14 (.int .i64 0)) w fun t_16 w =>
  ldv prog (Instr.loadAt 5 t_16) w fun t_17 w =>
  pvv prog (oEq .neq 5 (.tmp 42) (.const (.int .u8 72)) t_17 (.int .u8 72)) w fun t_18 w =>
  gate (some (t_18, false)) (fun K => K t_14 w) w fun t_19 w =>
  gate (some (t_18, false)) (fun K => pvv prog (Instr.indexAt 60 t_19 (.int .i64 1)) w K) w fun t_20 w =>
  gate (some (t_18, false)) (fun K => ldv prog (Instr.loadAt 5 t_20) w K) w fun t_21 w =>
  gate (some (t_18, false)) (fun K => pvv prog (oEq .neq 5 (.tmp 47) (.const (.int .u8 70)) t_21 (.int .u8 70)) w K) w fun t_22 w =>
  pv prog (oPick t_18 (.bool true) t_22) w fun t_23 w =>
  gate (some (t_23, false)) (fun K => K t_14 w) w fun t_24 w =>
  gate (some (t_23, false)) (fun K => pvv prog (Instr.indexAt 60 t_24 (.int .i64 2)) w K) w fun t_25 w =>
  gate (some (t_23, false)) (fun K => ldv prog (Instr.loadAt 5 t_25) w K) w fun t_26 w =>
  gate (some (t_23, false)) (fun K => pvv prog (binOp .geq 5 t_26 (.int .u8 128)) w K) w fun t_27 w =>
  pv prog (oPick t_23 (.bool true) t_27) w fun t_28 w =>
  gate (some (t_28, false)) (fun K => K t_14 w) w fun t_29 w =>
  gate (some (t_28, false)) (fun K => Calls prog 62 #[t_29, (.int .i64 12)] w (Ret K)) w fun t_30 w =>
  gate (some (t_28, false)) (fun K => pvv prog (Op.unary .not t_30) w K) w fun t_31 w =>
  pv prog (oPick t_28 (.bool true) t_31) w fun t_32 w =>
  cd t_32 (
    K (.tuple #[(.pointer none), (.int .i64 15)]) w) <|
  lp (fun σ w again_34 => pop σ fun i_33 σ => fin σ <|
    pvv prog (binOp .lss 3 i_33 (.int .i64 10)) w fun t_35 w =>
    cd t_35 (
      dr w fun w =>
      pv prog (oNil t_13) w fun t_36 w =>
      pvv prog (Instr.fieldAt 108 t_36 2) w fun t_37 w =>
      pvv prog (Instr.indexAt 60 t_14 i_33) w fun t_38 w =>
      bindS (vN (Instr.loadAt 3 t_37)) fun m_40 => ldv prog (Instr.loadAt 3 t_37) w fun t_39 w =>
      pvv prog (binOp .shl 3 t_39 (.int .u64 8)) w fun t_41 w =>
      bindS (vN (Instr.loadAt 5 t_38)) fun m_43 => ldv prog (Instr.loadAt 5 t_38) w fun t_42 w =>
      pvv prog (convert 5 3 t_42) w fun t_44 w =>
      pvv prog (binOp .or 3 t_41 t_44) w fun t_45 w =>
      pv prog (oNil t_13) w fun t_46 w =>
      pvv prog (Instr.fieldAt 108 t_46 2) w fun t_47 w =>
      efu prog (Instr.storeAt 3 t_47 t_45) w fun u_48 w =>
      pvv prog (binOp .add 3 i_33 (.int .i64 1)) w fun t_49 w =>
      again_34 [t_49] w) <|
    Calls prog 63 #[t_14, (.int .i64 10)] w (Ret fun t_51 w =>
    pv prog (oNil t_13) w fun t_52 w =>
    pvv prog (Instr.fieldAt 108 t_52 3) w fun t_53 w =>
    efu prog (Instr.storeAt 3 t_53 t_51) w fun u_54 w =>
    pv prog (oNil t_13) w fun t_55 w =>
    pvv prog (Instr.fieldAt 108 t_55 3) w fun t_56 w =>
    ldv prog (Instr.loadAt 3 t_56) w fun t_57 w =>
    pvv prog (binOp .gtr 3 t_57 size_p1) w fun t_58 w =>
    cd t_58 (
      K (.tuple #[(.pointer none), (.int .i64 15)]) w) <|
    lp (fun σ w again_60 => pop σ fun n_59 σ => fin σ <|
      pv prog (oNil t_13) w fun t_61 w =>
      pvv prog (Instr.fieldAt 108 t_61 3) w fun t_62 w =>
      ldv prog (Instr.loadAt 3 t_62) w fun t_63 w =>
      pvv prog (binOp .leq 3 n_59 t_63) w fun t_64 w =>
      cd t_64 (
        pv prog (oNil t_13) w fun t_65 w =>
        pvv prog (Instr.fieldAt 108 t_65 3) w fun t_66 w =>
        ldv prog (Instr.loadAt 3 t_66) w fun t_67 w =>
        Calls prog 64 #[t_13, n_59, t_67] w (Ret fun t_68 w =>
        pvv prog (Instr.extract t_68 0) w fun t_69 w =>
        pvv prog (Instr.extract t_68 1) w fun t_70 w =>
        pvv prog (Op.unary .not t_70) w fun t_71 w =>
        cd t_71 (
          K (.tuple #[(.pointer none), (.int .i64 15)]) w) <|
        pv prog (oBi .len #[29] 3 #[false] #[t_69]) w fun t_72 w =>
        pvv prog (binOp .add 3 (.int .i64 1) t_72) w fun t_73 w =>
        pvv prog (binOp .add 3 n_59 t_73) w fun t_74 w =>
        again_60 [t_74] w)) <|
      K (.tuple #[t_13, (.int .i64 0)]) w) [(.int .i64 1)] w)) [(.int .i64 2)] w))))
theorem B28_eq (d_p0 size_p1 : Value) (w : World) (K : Value → World → Prop) : denFn prog Tryz.f28 T28 [d_p0, size_p1] w K = B28 d_p0 size_p1 w K := by kernel_rfl
theorem c28 {d_p0 size_p1 : Value} {w : World} {K : Value → World → Prop} (h : B28 d_p0 size_p1 w K) : Calls prog 28 #[d_p0, size_p1] w (Ret K) :=
  denFn_calls Tryz.func28 T28_ok (Eq.mpr (B28_eq d_p0 size_p1 w K) h)

-- 105 slices.partitionEqualOrdered[int]
def T105 : Ann := (.seq .none (.seq (.draw [.op 0 .pure, .op 1 .pure, .op 2 .pure, .op 3 .pure, .op 4 .pure, .op 5 .pure, .op 6 .pure, .op 8 .pure, .op 9 .pure, .op 10 .pure, .op 7 .load, .op 11 .load, .op 12 .pure, .op 13 .eff, .op 14 .pure, .op 15 .eff]) (.seq .none (.seq (.block (.loop 9671406556917032860780032 [9, 10] (.block (.seq (.block (.loop 70368207307264 [9] (.seq (.seq (.draw [.op 0 .pure, .op 1 .pure, .op 2 .pure, .op 3 .pure, .op 4 .pure, .op 5 .pure, .op 6 .pure, .op 8 .pure, .op 9 .pure, .op 10 .pure, .op 7 .load, .op 11 .load, .op 12 .eff, .op 13 .pure, .op 14 .pure]) (.seq .none .none)) (.block .none)))) (.seq (.block (.loop 4611615649683211264 [10] (.seq (.seq (.draw [.op 0 .pure, .op 1 .pure, .op 2 .pure, .op 3 .pure, .op 4 .pure, .op 5 .pure, .op 6 .pure, .op 8 .pure, .op 9 .pure, .op 10 .pure, .op 7 .load, .op 11 .load, .op 12 .eff, .op 13 .pure]) (.seq .none .none)) (.block .none)))) (.seq (.seq .none (.seq .none .none)) (.seq (.draw [.op 0 .pure, .op 1 .pure, .op 2 .pure, .op 3 .pure, .op 4 .pure, .op 5 .pure, .op 6 .pure, .op 8 .pure, .op 9 .pure, .op 10 .pure, .op 7 .load, .op 11 .load, .op 12 .pure, .op 13 .eff, .op 14 .pure, .op 15 .eff]) (.seq .none .none)))))))) (.seq .none .none)))))
theorem T105_ok : chkFn prog Tryz.f105 T105 = true := by kernel_rfl
def B105 (data_p0 a_p1 b_p2 pivot_p3 : Value) (w : World) (K : Value → World → Prop) : Prop :=
  dr w fun w =>
  pvv prog (Instr.indexAt 29 data_p0 pivot_p3) w fun t_0 w =>
  pvv prog (Instr.indexAt 29 data_p0 a_p1) w fun t_1 w =>
  bindS (vN (Instr.loadAt 3 t_0)) fun m_3 => ldv prog (Instr.loadAt 3 t_0) w fun t_2 w =>
  bindS (vN (Instr.loadAt 3 t_1)) fun m_5 => ldv prog (Instr.loadAt 3 t_1) w fun t_4 w =>
  pvv prog (Instr.indexAt 29 data_p0 a_p1) w fun t_6 w =>
  efu prog (Instr.storeAt 3 t_6 t_2) w fun u_7 w =>
  pvv prog (Instr.indexAt 29 data_p0 pivot_p3) w fun t_8 w =>
  efu prog (Instr.storeAt 3 t_8 t_4) w fun u_9 w =>
  pvv prog (binOp .add 3 a_p1 (.int .i64 1)) w fun t_10 w =>
  pvv prog (binOp .sub 3 b_p2 (.int .i64 1)) w fun t_11 w =>
  lp (fun σ w again_14 => pop σ fun i_12 σ => pop σ fun j_13 σ => fin σ <|
    lp (fun σ w again_16 => pop σ fun i_15 σ => fin σ <|
      dr w fun w =>
      pvv prog (binOp .leq 3 i_15 j_13) w fun t_17 w =>
      gate (some (t_17, true)) (fun K => K data_p0 w) w fun t_18 w =>
      gate (some (t_17, true)) (fun K => K a_p1 w) w fun t_19 w =>
      gate (some (t_17, true)) (fun K => pvv prog (Instr.indexAt 29 t_18 t_19) w K) w fun t_20 w =>
      gate (some (t_17, true)) (fun K => K data_p0 w) w fun t_21 w =>
      gate (some (t_17, true)) (fun K => K i_15 w) w fun t_22 w =>
      gate (some (t_17, true)) (fun K => pvv prog (Instr.indexAt 29 t_21 t_22) w K) w fun t_23 w =>
      bindS (vN (Instr.loadAt 3 t_20)) fun m_25 => gate (some (t_17, true)) (fun K => ldv prog (Instr.loadAt 3 t_20) w K) w fun t_24 w =>
      bindS (vN (Instr.loadAt 3 t_23)) fun m_27 => gate (some (t_17, true)) (fun K => ldv prog (Instr.loadAt 3 t_23) w K) w fun t_26 w =>
      gate (some (t_17, true)) (fun K => Calls prog 104 #[t_24, t_26] w (Ret fun s_64 w => K s_64 w)) w fun t_28 w =>
      gate (some (t_17, true)) (fun K => pvv prog (Op.unary .not t_28) w K) w fun t_29 w =>
      pv prog (oPick t_17 t_29 (.bool false)) w fun t_30 w =>
      cd t_30 (
        pvv prog (binOp .add 3 i_15 (.int .i64 1)) w fun t_31 w =>
        again_16 [t_31] w) <|
      lp (fun σ w again_33 => pop σ fun j_32 σ => fin σ <|
        dr w fun w =>
        pvv prog (binOp .leq 3 i_15 j_32) w fun t_34 w =>
        gate (some (t_34, true)) (fun K => K data_p0 w) w fun t_35 w =>
        gate (some (t_34, true)) (fun K => K a_p1 w) w fun t_36 w =>
        gate (some (t_34, true)) (fun K => pvv prog (Instr.indexAt 29 t_35 t_36) w K) w fun t_37 w =>
        gate (some (t_34, true)) (fun K => K data_p0 w) w fun t_38 w =>
        gate (some (t_34, true)) (fun K => K j_32 w) w fun t_39 w =>
        gate (some (t_34, true)) (fun K => pvv prog (Instr.indexAt 29 t_38 t_39) w K) w fun t_40 w =>
        bindS (vN (Instr.loadAt 3 t_37)) fun m_42 => gate (some (t_34, true)) (fun K => ldv prog (Instr.loadAt 3 t_37) w K) w fun t_41 w =>
        bindS (vN (Instr.loadAt 3 t_40)) fun m_44 => gate (some (t_34, true)) (fun K => ldv prog (Instr.loadAt 3 t_40) w K) w fun t_43 w =>
        gate (some (t_34, true)) (fun K => Calls prog 104 #[t_41, t_43] w (Ret fun s_63 w => K s_63 w)) w fun t_45 w =>
        pv prog (oPick t_34 t_45 (.bool false)) w fun t_46 w =>
        cd t_46 (
          pvv prog (binOp .sub 3 j_32 (.int .i64 1)) w fun t_47 w =>
          again_33 [t_47] w) <|
        pvv prog (binOp .gtr 3 i_15 j_32) w fun t_48 w =>
        cd t_48 (
          K i_15 w) <|
        dr w fun w =>
        pvv prog (Instr.indexAt 29 data_p0 j_32) w fun t_49 w =>
        pvv prog (Instr.indexAt 29 data_p0 i_15) w fun t_50 w =>
        bindS (vN (Instr.loadAt 3 t_49)) fun m_52 => ldv prog (Instr.loadAt 3 t_49) w fun t_51 w =>
        bindS (vN (Instr.loadAt 3 t_50)) fun m_54 => ldv prog (Instr.loadAt 3 t_50) w fun t_53 w =>
        pvv prog (Instr.indexAt 29 data_p0 i_15) w fun t_55 w =>
        efu prog (Instr.storeAt 3 t_55 t_51) w fun u_56 w =>
        pvv prog (Instr.indexAt 29 data_p0 j_32) w fun t_57 w =>
        efu prog (Instr.storeAt 3 t_57 t_53) w fun u_58 w =>
        pvv prog (binOp .add 3 i_15 (.int .i64 1)) w fun t_59 w =>
        pvv prog (binOp .sub 3 j_32 (.int .i64 1)) w fun t_60 w =>
        again_14 [t_59, t_60] w) [j_13] w) [i_12] w) [t_10, t_11] w
theorem B105_eq (data_p0 a_p1 b_p2 pivot_p3 : Value) (w : World) (K : Value → World → Prop) : denFn prog Tryz.f105 T105 [data_p0, a_p1, b_p2, pivot_p3] w K = B105 data_p0 a_p1 b_p2 pivot_p3 w K := by kernel_rfl
theorem c105 {data_p0 a_p1 b_p2 pivot_p3 : Value} {w : World} {K : Value → World → Prop} (h : B105 data_p0 a_p1 b_p2 pivot_p3 w K) : Calls prog 105 #[data_p0, a_p1, b_p2, pivot_p3] w (Ret K) :=
  denFn_calls Tryz.func105 T105_ok (Eq.mpr (B105_eq data_p0 a_p1 b_p2 pivot_p3 w K) h)

-- 3 holdfast/holdfastlaw03.WalEmptied
def T3 : Ann := (.seq .none (.seq .none (.seq .none (.seq (.seq .none (.seq (.seq .none .none) .none)) (.seq (.seq .none (.block (.loop 140736414614016 [9] (.seq (.seq .none (.seq .none .none)) (.seq (.block .none) .none))))) (.seq .none (.seq .none (.seq .none .none))))))))
theorem T3_ok : chkFn prog Tryz.f3 T3 = true := by kernel_rfl
def B3 (size_p0 l_p1 : Value) (w : World) (K : Value → World → Prop) : Prop :=
  pvv prog (convert 5 3 size_p0) w fun t_0 w =>
  pvv prog (binOp .rem 3 t_0 (.int .i64 20)) w fun t_1 w =>
  pvv prog (binOp .add 3 t_1 (.int .i64 2)) w fun t_2 w =>
  pvv prog (binOp .add 3 t_2 (.int .i64 10)) w fun t_3 w =>
  Calls prog 7 #[t_3, t_2] w (Ret fun t_4 w =>
  pvv prog (Instr.extract t_4 0) w fun t_5 w =>
  pvv prog (Instr.extract t_4 1) w fun t_6 w =>
  pvv prog (Instr.extract t_4 2) w fun t_7 w =>
  Calls prog 8 #[] w (Ret fun t_8 w =>
  pvv prog (Op.unary .not t_8) w fun t_9 w =>
  gate (some (t_9, false)) (fun K => K t_7 w) w fun t_10 w =>
  gate (some (t_9, false)) (fun K => pvv prog (Op.unary .not t_10) w K) w fun t_11 w =>
  pv prog (oPick t_9 (.bool true) t_11) w fun t_12 w =>
  cd t_12 (
    K (.bool false) w) <|
  lp (fun σ w again_14 => pop σ fun i_13 σ => fin σ <|
    pv prog (oBi .len #[22] 3 #[false] #[l_p1]) w fun t_15 w =>
    pvv prog (binOp .lss 3 i_13 t_15) w fun t_16 w =>
    gate (some (t_16, true)) (fun K => K i_13 w) w fun t_17 w =>
    gate (some (t_16, true)) (fun K => pvv prog (binOp .lss 3 t_17 (.int .i64 20)) w K) w fun t_18 w =>
    pv prog (oPick t_16 t_18 (.bool false)) w fun t_19 w =>
    cd t_19 (
      pvv prog (Instr.indexAt 22 l_p1 i_13) w fun t_20 w =>
      ldv prog (Instr.loadAt 31 t_20) w fun t_21 w =>
      Calls prog 9 #[t_5, t_6, t_21] w (Ret fun t_22 w =>
      pvv prog (binOp .add 3 i_13 (.int .i64 1)) w fun t_23 w =>
      again_14 [t_23] w)) <|
    Calls prog 10 #[t_5] w (Ret fun t_24 w =>
    Calls prog 11 #[t_5] w (Ret fun t_25 w =>
    pvv prog (oEq .eql 34 (.tmp 51) (.const (.int .i64 0)) t_25 (.int .i64 0)) w fun t_26 w =>
    gate (some (t_26, true)) (fun K => K t_5 w) w fun t_27 w =>
    gate (some (t_26, true)) (fun K => Calls prog 12 #[t_27] w (Ret K)) w fun t_28 w =>
    gate (some (t_26, true)) (fun K => pvv prog (oEq .eql 3 (.tmp 55) (.const (.int .i64 0)) t_28 (.int .i64 0)) w K) w fun t_29 w =>
    pv prog (oPick t_26 t_29 (.bool false)) w fun t_30 w =>
    gate (some (t_30, true)) (fun K => K t_5 w) w fun t_31 w =>
    gate (some (t_30, true)) (fun K => Calls prog 13 #[t_31] w (Ret K)) w fun t_32 w =>
    gate (some (t_30, true)) (fun K => K t_2 w) w fun t_33 w =>
    gate (some (t_30, true)) (fun K => pvv prog (oEq .eql 3 (.tmp 60) (.tmp 61) t_32 t_33) w K) w fun t_34 w =>
    pv prog (oPick t_30 t_34 (.bool false)) w fun t_35 w =>
    gate (some (t_35, true)) (fun K => K t_5 w) w fun t_36 w =>
    gate (some (t_35, true)) (fun K => Calls prog 14 #[t_36] w (Ret K)) w fun t_37 w =>
    gate (some (t_35, true)) (fun K => pv prog (oBi .len #[29] 3 #[false] #[t_37]) w K) w fun t_38 w =>
    gate (some (t_35, true)) (fun K => pvv prog (oEq .eql 3 (.tmp 67) (.const (.int .i64 0)) t_38 (.int .i64 0)) w K) w fun t_39 w =>
    pv prog (oPick t_35 t_39 (.bool false)) w fun t_40 w =>
    gate (some (t_40, true)) (fun K => K t_5 w) w fun t_41 w =>
    gate (some (t_40, true)) (fun K => Calls prog 10 #[t_41] w (Ret K)) w fun t_42 w =>
    gate (some (t_40, true)) (fun K => K t_24 w) w fun t_43 w =>
    gate (some (t_40, true)) (fun K => Calls prog 15 #[t_42, t_43] w (Ret K)) w fun t_44 w =>
    pv prog (oPick t_40 t_44 (.bool false)) w fun t_45 w =>
    gate (some (t_45, true)) (fun K => K t_5 w) w fun t_46 w =>
    gate (some (t_45, true)) (fun K => Calls prog 11 #[t_46] w (Ret K)) w fun t_47 w =>
    gate (some (t_45, true)) (fun K => pvv prog (oEq .eql 34 (.tmp 78) (.const (.int .i64 0)) t_47 (.int .i64 0)) w K) w fun t_48 w =>
    pv prog (oPick t_45 t_48 (.bool false)) w fun t_49 w =>
    K t_49 w))) [(.int .i64 0)] w))
theorem B3_eq (size_p0 l_p1 : Value) (w : World) (K : Value → World → Prop) : denFn prog Tryz.f3 T3 [size_p0, l_p1] w K = B3 size_p0 l_p1 w K := by kernel_rfl
theorem c3 {size_p0 l_p1 : Value} {w : World} {K : Value → World → Prop} (h : B3 size_p0 l_p1 w K) : Calls prog 3 #[size_p0, l_p1] w (Ret K) :=
  denFn_calls Tryz.func3 T3_ok (Eq.mpr (B3_eq size_p0 l_p1 w K) h)

-- 11 (*holdfast/wal.Log).Checkpoint
def T11 : Ann := (.seq .none (.seq (.block (.seq .none (.seq (.seq .none .none) (.seq .none (.seq (.seq .none .none) .none))))) (.seq (.seq .none (.block (.loop 9007199254216816 [19] (.seq .none (.seq (.seq .none .none) (.seq (.block (.seq .none (.seq (.draw [.op 0 .pure, .op 1 .pure, .op 2 .pure, .op 3 .pure, .op 5 .pure, .op 6 .pure, .op 7 .pure, .op 9 .pure, .op 4 .load, .op 8 .load, .op 10 .load, .op 11 .eff, .op 12 .pure, .op 13 .pure, .op 14 .pure, .op 15 .pure, .op 16 .pure]) (.draw [.op 0 .pure, .op 1 .pure, .op 2 .pure, .op 3 .pure, .op 5 .pure, .op 6 .pure, .op 7 .pure, .op 10 .pure, .op 12 .pure, .op 4 .load, .op 8 .load, .op 9 .pure, .op 11 .pure, .op 13 .eff])))) .none)))))) (.seq .none (.seq .none (.seq .none (.seq .none .none)))))))
theorem T11_ok : chkFn prog Tryz.f11 T11 = true := by kernel_rfl
def B11 (l_p0 : Value) (w : World) (K : Value → World → Prop) : Prop :=
  pvv prog (oEq .eql 23 (.tmp 8) (.const (.pointer none)) l_p0 (.pointer none)) w fun t_0 w =>
  cd t_0 (
    K (.int .i64 1) w) <|
  pv prog (oNil l_p0) w fun t_1 w =>
  pvv prog (Instr.fieldAt 70 t_1 3) w fun t_2 w =>
  ldv prog (Instr.loadAt 3 t_2) w fun t_3 w =>
  pvv prog (oEq .eql 3 (.tmp 14) (.const (.int .i64 0)) t_3 (.int .i64 0)) w fun t_4 w =>
  cd t_4 (
    K (.int .i64 0) w) <|
  Calls prog 14 #[l_p0] w (Ret fun t_5 w =>
  pv prog (oBi .len #[29] 3 #[false] #[t_5]) w fun t_6 w =>
  lp (fun σ w again_8 => pop σ fun t_7 σ => fin σ <|
    pvv prog (binOp .lss 3 t_7 t_6) w fun t_9 w =>
    cd t_9 (
      pvv prog (Instr.indexAt 29 t_5 t_7) w fun t_10 w =>
      ldv prog (Instr.loadAt 3 t_10) w fun t_11 w =>
      dr w fun w =>
      pv prog (oNil l_p0) w fun t_12 w =>
      pvv prog (Instr.fieldAt 70 t_12 0) w fun t_13 w =>
      pvv prog (Instr.fieldAt 67 t_13 0) w fun t_14 w =>
      pv prog (oNil l_p0) w fun t_15 w =>
      pvv prog (Instr.fieldAt 70 t_15 4) w fun t_16 w =>
      bindS (vN (Instr.loadAt 42 t_14)) fun m_18 => ldv prog (Instr.loadAt 42 t_14) w fun t_17 w =>
      bindS (vN (Instr.loadAt 68 t_16)) fun m_20 => ldv prog (Instr.loadAt 68 t_16) w fun t_19 w =>
      bindS (vN (Instr.lookup 68 t_19 t_11 false)) fun m_22 => ldv prog (Instr.lookup 68 t_19 t_11 false) w fun t_21 w =>
      Calls prog 34 #[t_17, t_21] w (Ret fun t_23 w => stay prog none m_20 t_19 w <| 
      pvv prog (Instr.extract t_23 0) w fun t_24 w =>
      pvv prog (Instr.extract t_23 1) w fun t_25 w =>
      dr w fun w =>
      pv prog (oNil l_p0) w fun t_26 w =>
      pvv prog (Instr.fieldAt 70 t_26 0) w fun t_27 w =>
      pvv prog (Instr.fieldAt 67 t_27 0) w fun t_28 w =>
      pv prog (oNil l_p0) w fun t_29 w =>
      pvv prog (Instr.fieldAt 70 t_29 1) w fun t_30 w =>
      bindS (vN (Instr.loadAt 42 t_28)) fun m_32 => ldv prog (Instr.loadAt 42 t_28) w fun t_31 w =>
      bindS (vN (Instr.loadAt 3 t_30)) fun m_34 => ldv prog (Instr.loadAt 3 t_30) w fun t_33 w =>
      pvv prog (binOp .add 3 t_33 (.int .i64 1)) w fun t_35 w =>
      pvv prog (binOp .add 3 t_35 t_11) w fun t_36 w =>
      Calls prog 35 #[t_31, t_36, t_24] w (Ret fun t_37 w => stay prog none m_34 t_33 w <| 
      pvv prog (binOp .add 3 t_7 (.int .i64 1)) w fun t_38 w =>
      again_8 [t_38] w))) <|
    pv prog (oNil l_p0) w fun t_41 w =>
    pvv prog (Instr.fieldAt 70 t_41 3) w fun t_42 w =>
    efu prog (Instr.storeAt 3 t_42 (.int .i64 0)) w fun u_43 w =>
    pv prog (oNil l_p0) w fun t_44 w =>
    pvv prog (Instr.fieldAt 70 t_44 4) w fun t_45 w =>
    ldv prog (Instr.loadAt 68 t_45) w fun t_46 w =>
    ef prog (oBi .clear #[68] 0 #[false] #[t_46]) w fun u_47 w =>
    Calls prog 36 #[l_p0] w (Ret fun t_48 w =>
    K (.int .i64 0) w)) [(.int .i64 0)] w)
theorem B11_eq (l_p0 : Value) (w : World) (K : Value → World → Prop) : denFn prog Tryz.f11 T11 [l_p0] w K = B11 l_p0 w K := by kernel_rfl
theorem c11 {l_p0 : Value} {w : World} {K : Value → World → Prop} (h : B11 l_p0 w K) : Calls prog 11 #[l_p0] w (Ret K) :=
  denFn_calls Tryz.func11 T11_ok (Eq.mpr (B11_eq l_p0 w K) h)

-- 21 (*holdfast/block.Disk).Cut
def T21 : Ann := (.seq .none (.seq (.block (.seq .none (.seq (.seq .none .none) (.seq .none (.seq (.seq .none .none) .none))))) (.seq .none (.seq (.seq .none (.block (.range .none (.block (.draw [.op 1 .pure, .op 3 .pure, .op 0 .load, .op 2 .load, .op 4 .load, .op 5 .eff, .op 6 .pure, .op 7 .eff]))))) (.seq .none .none)))))
theorem T21_ok : chkFn prog Tryz.f21 T21 = true := by kernel_rfl
def B21 (d_p0 k_p1 : Value) (w : World) (K : Value → World → Prop) : Prop :=
  pvv prog (oEq .eql 42 (.tmp 10) (.const (.pointer none)) d_p0 (.pointer none)) w fun t_0 w =>
  cd t_0 (
    K (.tuple #[(.pointer none), (.int .i64 1)]) w) <|
  pvv prog (binOp .lss 3 k_p1 (.int .i64 0)) w fun t_1 w =>
  gate (some (t_1, false)) (fun K => K k_p1 w) w fun t_2 w =>
  gate (some (t_1, false)) (fun K => K d_p0 w) w fun t_3 w =>
  gate (some (t_1, false)) (fun K => pv prog (oNil t_3) w K) w fun t_4 w =>
  gate (some (t_1, false)) (fun K => pvv prog (Instr.fieldAt 88 t_4 1) w K) w fun t_5 w =>
  gate (some (t_1, false)) (fun K => ldv prog (Instr.loadAt 81 t_5) w K) w fun t_6 w =>
  gate (some (t_1, false)) (fun K => pv prog (oBi .len #[81] 3 #[false] #[t_6]) w K) w fun t_7 w =>
  gate (some (t_1, false)) (fun K => pvv prog (binOp .gtr 3 t_2 t_7) w K) w fun t_8 w =>
  pv prog (oPick t_1 (.bool true) t_8) w fun t_9 w =>
  cd t_9 (
    K (.tuple #[(.pointer none), (.int .i64 2)]) w) <|
  pv prog (oNil d_p0) w fun t_10 w =>
  pvv prog (Instr.fieldAt 88 t_10 0) w fun t_11 w =>
  ldv prog (Instr.loadAt 32 t_11) w fun t_12 w =>
  Calls prog 49 #[t_12] w (Ret fun t_13 w =>
  efv prog (Instr.alloc 32 true (.tuple #[])) w fun out_14 w =>
  efu prog (Instr.storeAt 32 out_14 t_13) w fun u_15 w =>
  pv prog (oNil d_p0) w fun t_16 w =>
  pvv prog (Instr.fieldAt 88 t_16 1) w fun t_17 w =>
  ldv prog (Instr.loadAt 81 t_17) w fun t_18 w =>
  pvv prog (Instr.sliceAt 81 t_18 (some k_p1) none none) w fun t_19 w =>
  Calls prog 50 #[t_19] w (Ret fun t_20 w =>
  rng prog 2 t_20 (fun σ w bg_23 ex_24 => pop σ fun t_21 σ => pop σ fun t_22 σ => fin σ <|
    efv prog (Instr.alloc 95 true (.tuple #[])) w fun w_25 w =>
    efu prog (Instr.storeAt 95 w_25 t_22) w fun u_26 w =>
    bg_23 w fun w =>
    dr w fun w =>
    pvv prog (Instr.fieldAt 95 w_25 0) w fun t_27 w =>
    pvv prog (Instr.fieldAt 95 w_25 1) w fun t_28 w =>
    bindS (vN (Instr.loadAt 32 out_14)) fun m_30 => ldv prog (Instr.loadAt 32 out_14) w fun t_29 w =>
    bindS (vN (Instr.loadAt 3 t_27)) fun m_32 => ldv prog (Instr.loadAt 3 t_27) w fun t_31 w =>
    bindS (vN (Instr.loadAt 60 t_28)) fun m_34 => ldv prog (Instr.loadAt 60 t_28) w fun t_33 w =>
    Calls prog 51 #[t_33] w (Ret fun t_35 w => stay prog none m_32 t_31 w <| stay prog none m_30 t_29 w <| 
    pvv prog (Instr.indexAt 32 t_29 t_31) w fun t_36 w =>
    efu prog (Instr.storeAt 60 t_36 t_35) w fun u_37 w =>
    ex_24 .normal w)) w fun p_41 D_40 w =>
  jump (
    ldv prog (Instr.loadAt 32 out_14) w fun t_42 w =>
    pvv prog (Instr.build 88 #[(0, t_42)]) w fun t_43 w =>
    efv prog (Instr.box 88 t_43) w fun t_44 w =>
    und [D_40] w fun w => K (.tuple #[t_44, (.int .i64 0)]) w) (
    und [D_40] w fun w => K (.tuple #[(.pointer none), (.int .i64 0)]) w) [] p_41))
theorem B21_eq (d_p0 k_p1 : Value) (w : World) (K : Value → World → Prop) : denFn prog Tryz.f21 T21 [d_p0, k_p1] w K = B21 d_p0 k_p1 w K := by kernel_rfl
theorem c21 {d_p0 k_p1 : Value} {w : World} {K : Value → World → Prop} (h : B21 d_p0 k_p1 w K) : Calls prog 21 #[d_p0, k_p1] w (Ret K) :=
  denFn_calls Tryz.func21 T21_ok (Eq.mpr (B21_eq d_p0 k_p1 w K) h)

-- 31 (*holdfast/holdfastref03.Log).Checkpoint
def T31 : Ann := (.seq .none (.seq (.seq .none (.seq (.seq .none .none) .none)) (.seq (.seq .none (.seq (.seq .none .none) .none)) (.seq .none (.seq (.seq .none (.block (.loop 8796093005840 [4] (.seq (.seq .none (.seq .none .none)) (.seq (.block (.draw [.op 0 .pure, .op 1 .pure, .op 2 .pure, .op 4 .pure, .op 5 .pure, .op 6 .pure, .op 9 .pure, .op 10 .pure, .op 11 .pure, .op 14 .pure, .op 15 .pure, .op 16 .pure, .op 17 .pure, .op 18 .pure, .op 3 .load, .op 7 .load, .op 8 .pure, .op 12 .load, .op 13 .pure, .op 19 .load, .op 20 .eff, .op 21 .eff, .op 22 .eff])) .none))))) (.seq .none (.seq .none (.seq .none .none))))))))
theorem T31_ok : chkFn prog Tryz.f31 T31 = true := by kernel_rfl
def B31 (l_p0 : Value) (w : World) (K : Value → World → Prop) : Prop :=
  pvv prog (oEq .eql 24 (.tmp 5) (.const (.pointer none)) l_p0 (.pointer none)) w fun t_0 w =>
  cd t_0 (
    K (.int .i64 1) w) <|
  pv prog (oNil l_p0) w fun t_1 w =>
  pvv prog (Instr.fieldAt 108 t_1 3) w fun t_2 w =>
  ldv prog (Instr.loadAt 3 t_2) w fun t_3 w =>
  pvv prog (oEq .eql 3 (.tmp 10) (.const (.int .i64 0)) t_3 (.int .i64 0)) w fun t_4 w =>
  cd t_4 (
    K (.int .i64 0) w) <|
  Calls prog 66 #[l_p0] w (Ret fun t_5 w =>
  lp (fun σ w again_7 => pop σ fun i_6 σ => fin σ <|
    pv prog (oBi .len #[29] 3 #[false] #[t_5]) w fun t_8 w =>
    pvv prog (binOp .lss 3 i_6 t_8) w fun t_9 w =>
    cd t_9 (
      dr w fun w =>
      pv prog (oNil l_p0) w fun t_10 w =>
      pvv prog (Instr.fieldAt 108 t_10 0) w fun t_11 w =>
      pv prog (oNil l_p0) w fun t_12 w =>
      pvv prog (Instr.fieldAt 108 t_12 1) w fun t_13 w =>
      pvv prog (Instr.indexAt 29 t_5 i_6) w fun t_14 w =>
      pvv prog (Instr.indexAt 29 t_5 i_6) w fun t_15 w =>
      bindS (vN (Instr.loadAt 55 t_11)) fun m_17 => ldv prog (Instr.loadAt 55 t_11) w fun t_16 w =>
      bindS (vN (Instr.loadAt 3 t_13)) fun m_19 => ldv prog (Instr.loadAt 3 t_13) w fun t_18 w =>
      pvv prog (binOp .add 3 t_18 (.int .i64 1)) w fun t_20 w =>
      bindS (vN (Instr.loadAt 3 t_14)) fun m_22 => ldv prog (Instr.loadAt 3 t_14) w fun t_21 w =>
      pvv prog (binOp .add 3 t_20 t_21) w fun t_23 w =>
      bindS (vN (Instr.loadAt 3 t_15)) fun m_25 => ldv prog (Instr.loadAt 3 t_15) w fun t_24 w =>
      Calls prog 68 #[l_p0, t_24] w (Ret fun t_26 w => stay prog none m_22 t_21 w <| stay prog none m_19 t_18 w <| stay prog none m_17 t_16 w <| 
      Calls prog 61 #[l_p0, t_26] w (Ret fun t_27 w => stay prog none m_25 t_24 w <| stay prog none m_22 t_21 w <| stay prog none m_19 t_18 w <| stay prog none m_17 t_16 w <| 
      Calls prog 67 #[t_16, t_23, t_27] w (Ret fun t_28 w => stay prog none m_25 t_24 w <| stay prog none m_22 t_21 w <| stay prog none m_19 t_18 w <| 
      pvv prog (binOp .add 3 i_6 (.int .i64 1)) w fun t_29 w =>
      again_7 [t_29] w)))) <|
    pv prog (oNil l_p0) w fun t_33 w =>
    pvv prog (Instr.fieldAt 108 t_33 3) w fun t_34 w =>
    efu prog (Instr.storeAt 3 t_34 (.int .i64 0)) w fun u_35 w =>
    Calls prog 69 #[l_p0] w (Ret fun t_36 w =>
    K (.int .i64 0) w)) [(.int .i64 0)] w)
theorem B31_eq (l_p0 : Value) (w : World) (K : Value → World → Prop) : denFn prog Tryz.f31 T31 [l_p0] w K = B31 l_p0 w K := by kernel_rfl
theorem c31 {l_p0 : Value} {w : World} {K : Value → World → Prop} (h : B31 l_p0 w K) : Calls prog 31 #[l_p0] w (Ret K) :=
  denFn_calls Tryz.func31 T31_ok (Eq.mpr (B31_eq l_p0 w K) h)

-- 101 slices.choosePivotOrdered[int]
def T101 : Ann := (.seq .none (.seq .none (.seq .none (.seq .none (.seq .none (.seq .none (.meet 562947805944832 [11] (.seq .none (.seq (.meet 17583596116992 [10, 11, 12] (.seq .none (.seq (.seq .none (.seq .none .none)) .none)) .none) .none)) (.seq .none (.block (.seq .none (.seq (.seq .none .none) (.seq .none (.seq (.seq .none .none) (.seq .none .none))))))))))))))
theorem T101_ok : chkFn prog Tryz.f101 T101 = true := by kernel_rfl
def B101 (data_p0 a_p1 b_p2 : Value) (w : World) (K : Value → World → Prop) : Prop :=
  pvv prog (binOp .sub 3 b_p2 a_p1) w fun t_0 w =>
  efv prog (Instr.alloc 3 true (.tuple #[])) w fun swaps_1 w =>
  pvv prog (binOp .quo 3 t_0 (.int .i64 4)) w fun t_2 w =>
  pvv prog (binOp .mul 3 t_2 (.int .i64 1)) w fun t_3 w =>
  pvv prog (binOp .add 3 a_p1 t_3) w fun t_4 w =>
  pvv prog (binOp .quo 3 t_0 (.int .i64 4)) w fun t_5 w =>
  pvv prog (binOp .mul 3 t_5 (.int .i64 2)) w fun t_6 w =>
  pvv prog (binOp .add 3 a_p1 t_6) w fun t_7 w =>
  pvv prog (binOp .quo 3 t_0 (.int .i64 4)) w fun t_8 w =>
  pvv prog (binOp .mul 3 t_8 (.int .i64 3)) w fun t_9 w =>
  pvv prog (binOp .add 3 a_p1 t_9) w fun t_10 w =>
  jn (fun σ w => pop σ fun j_11 σ => fin σ <|
    ldv prog (Instr.loadAt 3 swaps_1) w fun t_12 w =>
    pvv prog (oEq .eql 3 (.tmp 49) (.const (.int .i64 0)) t_12 (.int .i64 0)) w fun t_13 w =>
    cd t_13 (
      K (.tuple #[j_11, (.int .i64 1)]) w) <|
    pvv prog (oEq .eql 3 (.tmp 49) (.const (.int .i64 12)) t_12 (.int .i64 12)) w fun t_14 w =>
    cd t_14 (
      K (.tuple #[j_11, (.int .i64 2)]) w) <|
    K (.tuple #[j_11, (.int .i64 0)]) w) fun k_15 =>
  pvv prog (binOp .geq 3 t_0 (.int .i64 8)) w fun t_16 w =>
  cd t_16 (
    jn (fun σ w => pop σ fun i_17 σ => pop σ fun j_18 σ => pop σ fun k_19 σ => fin σ <|
      Calls prog 113 #[data_p0, i_17, j_18, k_19, swaps_1] w (Ret fun t_20 w =>
      k_15 [t_20] w)) fun k_21 =>
    pvv prog (binOp .geq 3 t_0 (.int .i64 50)) w fun t_22 w =>
    cd t_22 (
      Calls prog 112 #[data_p0, t_4, swaps_1] w (Ret fun t_23 w =>
      Calls prog 112 #[data_p0, t_7, swaps_1] w (Ret fun t_24 w =>
      Calls prog 112 #[data_p0, t_10, swaps_1] w (Ret fun t_25 w =>
      k_21 [t_23, t_24, t_25] w)))) <|
    k_21 [t_4, t_7, t_10] w) <|
  k_15 [t_7] w
theorem B101_eq (data_p0 a_p1 b_p2 : Value) (w : World) (K : Value → World → Prop) : denFn prog Tryz.f101 T101 [data_p0, a_p1, b_p2] w K = B101 data_p0 a_p1 b_p2 w K := by kernel_rfl
theorem c101 {data_p0 a_p1 b_p2 : Value} {w : World} {K : Value → World → Prop} (h : B101 data_p0 a_p1 b_p2 w K) : Calls prog 101 #[data_p0, a_p1, b_p2] w (Ret K) :=
  denFn_calls Tryz.func101 T101_ok (Eq.mpr (B101_eq data_p0 a_p1 b_p2 w K) h)

-- 26 holdfast/block.New
def T26 : Ann := (.seq .none (.seq (.seq .none (.seq (.seq .none .none) .none)) (.seq .none (.seq (.seq .none (.block (.loop 4292870176 [21] (.seq .none (.seq (.seq .none .none) (.seq (.block (.seq .none (.draw [.op 0 .pure, .op 1 .pure, .op 2 .pure, .op 4 .pure, .op 3 .load, .op 5 .eff, .op 6 .pure, .op 7 .eff]))) .none)))))) (.seq .none .none)))))
theorem T26_ok : chkFn prog Tryz.f26 T26 = true := by kernel_rfl
def B26 (blocks_p0 : Value) (w : World) (K : Value → World → Prop) : Prop :=
  pvv prog (binOp .lss 3 blocks_p0 (.int .i64 1)) w fun t_0 w =>
  gate (some (t_0, false)) (fun K => K blocks_p0 w) w fun t_1 w =>
  gate (some (t_0, false)) (fun K => pvv prog (binOp .gtr 3 t_1 (.int .i64 1024)) w K) w fun t_2 w =>
  pv prog (oPick t_0 (.bool true) t_2) w fun t_3 w =>
  cd t_3 (
    K (.tuple #[(.pointer none), (.int .i64 2)]) w) <|
  efv prog (Instr.makeSlice 32 blocks_p0 blocks_p0) w fun t_4 w =>
  pvv prog (Instr.build 88 #[(0, t_4)]) w fun t_5 w =>
  efv prog (Instr.box 88 t_5) w fun t_6 w =>
  pv prog (oNil t_6) w fun t_7 w =>
  pvv prog (Instr.fieldAt 88 t_7 0) w fun t_8 w =>
  ldv prog (Instr.loadAt 32 t_8) w fun t_9 w =>
  pv prog (oBi .len #[32] 3 #[false] #[t_9]) w fun t_10 w =>
  lp (fun σ w again_12 => pop σ fun t_11 σ => fin σ <|
    pvv prog (binOp .lss 3 t_11 t_10) w fun t_13 w =>
    cd t_13 (
      dr w fun w =>
      pv prog (oNil t_6) w fun t_14 w =>
      pvv prog (Instr.fieldAt 88 t_14 0) w fun t_15 w =>
      bindS (vN (Instr.loadAt 32 t_15)) fun m_17 => ldv prog (Instr.loadAt 32 t_15) w fun t_16 w =>
      efv prog (Instr.makeSlice 60 (.int .i64 256) (.int .i64 256)) w fun t_18 w => stay prog none m_17 t_16 w <| 
      pvv prog (Instr.indexAt 32 t_16 t_11) w fun t_19 w =>
      efu prog (Instr.storeAt 60 t_19 t_18) w fun u_20 w =>
      pvv prog (binOp .add 3 t_11 (.int .i64 1)) w fun t_21 w =>
      again_12 [t_21] w) <|
    K (.tuple #[t_6, (.int .i64 0)]) w) [(.int .i64 0)] w
theorem B26_eq (blocks_p0 : Value) (w : World) (K : Value → World → Prop) : denFn prog Tryz.f26 T26 [blocks_p0] w K = B26 blocks_p0 w K := by kernel_rfl
theorem c26 {blocks_p0 : Value} {w : World} {K : Value → World → Prop} (h : B26 blocks_p0 w K) : Calls prog 26 #[blocks_p0] w (Ret K) :=
  denFn_calls Tryz.func26 T26_ok (Eq.mpr (B26_eq blocks_p0 w K) h)

-- 27 holdfast/holdfastref01.New
def T27 : Ann := (.seq .none (.seq (.seq .none (.seq (.seq .none .none) .none)) (.seq .none (.seq (.seq .none (.block (.loop 536854560 [5] (.seq (.seq .none (.seq .none .none)) (.seq (.block (.draw [.op 0 .pure, .op 1 .pure, .op 2 .pure, .op 3 .pure, .op 4 .load, .op 5 .eff, .op 6 .eff, .op 7 .eff, .op 8 .pure, .op 9 .pure, .op 10 .eff])) .none))))) (.seq .none .none)))))
theorem T27_ok : chkFn prog Tryz.f27 T27 = true := by kernel_rfl
def B27 (blocks_p0 : Value) (w : World) (K : Value → World → Prop) : Prop :=
  pvv prog (binOp .lss 3 blocks_p0 (.int .i64 1)) w fun t_0 w =>
  gate (some (t_0, false)) (fun K => K blocks_p0 w) w fun t_1 w =>
  gate (some (t_0, false)) (fun K => pvv prog (binOp .gtr 3 t_1 (.int .i64 1024)) w K) w fun t_2 w =>
  pv prog (oPick t_0 (.bool true) t_2) w fun t_3 w =>
  cd t_3 (
    K (.tuple #[(.pointer none), (.int .i64 2)]) w) <|
  pvv prog (Instr.build 105 #[]) w fun t_4 w =>
  efv prog (Instr.box 105 t_4) w fun t_5 w =>
  lp (fun σ w again_7 => pop σ fun i_6 σ => fin σ <|
    pvv prog (binOp .lss 3 i_6 blocks_p0) w fun t_8 w =>
    cd t_8 (
      dr w fun w =>
      pv prog (oNil t_5) w fun t_9 w =>
      pvv prog (Instr.fieldAt 105 t_9 0) w fun t_10 w =>
      bindS (vN (Instr.loadAt 32 t_10)) fun m_12 => ldv prog (Instr.loadAt 32 t_10) w fun t_11 w =>
      efv prog (Instr.makeSlice 60 (.int .i64 256) (.int .i64 256)) w fun t_13 w => stay prog none m_12 t_11 w <| 
      efv prog (Instr.buildSlice 32 1 #[(0, t_13)]) w fun t_14 w => stay prog none m_12 t_11 w <| 
      ef prog (oBi .append #[32, 32] 32 #[false, false] #[t_11, t_14]) w fun t_15 w =>
      pv prog (oNil t_5) w fun t_16 w =>
      pvv prog (Instr.fieldAt 105 t_16 0) w fun t_17 w =>
      efu prog (Instr.storeAt 32 t_17 t_15) w fun u_18 w =>
      pvv prog (binOp .add 3 i_6 (.int .i64 1)) w fun t_19 w =>
      again_7 [t_19] w) <|
    K (.tuple #[t_5, (.int .i64 0)]) w) [(.int .i64 0)] w
theorem B27_eq (blocks_p0 : Value) (w : World) (K : Value → World → Prop) : denFn prog Tryz.f27 T27 [blocks_p0] w K = B27 blocks_p0 w K := by kernel_rfl
theorem c27 {blocks_p0 : Value} {w : World} {K : Value → World → Prop} (h : B27 blocks_p0 w K) : Calls prog 27 #[blocks_p0] w (Ret K) :=
  denFn_calls Tryz.func27 T27_ok (Eq.mpr (B27_eq blocks_p0 w K) h)

-- 30 (*holdfast/wal.Log).Read
def T30 : Ann := (.seq .none (.seq (.block (.seq .none (.seq (.seq .none .none) (.seq .none (.seq (.seq .none .none) .none))))) (.seq (.draw [.op 0 .pure, .op 1 .pure, .op 2 .pure, .op 3 .pure, .op 5 .pure, .op 6 .pure, .op 4 .load, .op 7 .eff, .op 8 .eff, .op 9 .pure, .op 10 .pure, .op 11 .pure, .op 12 .pure]) .none)))
theorem T30_ok : chkFn prog Tryz.f30 T30 = true := by kernel_rfl
def B30 (l_p0 n_p1 : Value) (w : World) (K : Value → World → Prop) : Prop :=
  pvv prog (oEq .eql 23 (.tmp 7) (.const (.pointer none)) l_p0 (.pointer none)) w fun t_0 w =>
  cd t_0 (
    K (.tuple #[(.slice none 0 0), (.int .i64 1)]) w) <|
  pvv prog (binOp .lss 3 n_p1 (.int .i64 0)) w fun t_1 w =>
  gate (some (t_1, false)) (fun K => K n_p1 w) w fun t_2 w =>
  gate (some (t_1, false)) (fun K => K l_p0 w) w fun t_3 w =>
  gate (some (t_1, false)) (fun K => Calls prog 33 #[t_3] w (Ret K)) w fun t_4 w =>
  gate (some (t_1, false)) (fun K => pvv prog (binOp .geq 3 t_2 t_4) w K) w fun t_5 w =>
  pv prog (oPick t_1 (.bool true) t_5) w fun t_6 w =>
  cd t_6 (
    K (.tuple #[(.slice none 0 0), (.int .i64 2)]) w) <|
  dr w fun w =>
  pv prog (oNil l_p0) w fun t_7 w =>
  pvv prog (Instr.fieldAt 70 t_7 0) w fun t_8 w =>
  pvv prog (Instr.fieldAt 67 t_8 0) w fun t_9 w =>
  bindS (vN (Instr.loadAt 42 t_9)) fun m_11 => ldv prog (Instr.loadAt 42 t_9) w fun t_10 w =>
  Calls prog 65 #[l_p0, n_p1] w (Ret fun t_12 w => stay prog none m_11 t_10 w <| 
  Calls prog 34 #[t_10, t_12] w (Ret fun t_13 w =>
  pvv prog (Instr.extract t_13 0) w fun t_14 w =>
  pvv prog (Instr.extract t_13 1) w fun t_15 w =>
  K (.tuple #[t_14, t_15]) w))
theorem B30_eq (l_p0 n_p1 : Value) (w : World) (K : Value → World → Prop) : denFn prog Tryz.f30 T30 [l_p0, n_p1] w K = B30 l_p0 n_p1 w K := by kernel_rfl
theorem c30 {l_p0 n_p1 : Value} {w : World} {K : Value → World → Prop} (h : B30 l_p0 n_p1 w K) : Calls prog 30 #[l_p0, n_p1] w (Ret K) :=
  denFn_calls Tryz.func30 T30_ok (Eq.mpr (B30_eq l_p0 n_p1 w K) h)

-- 102 slices.reverseRangeOrdered[int]
def T102 : Ann := (.seq .none (.seq .none (.block (.loop 4294965440 [6, 7] (.seq (.seq .none (.seq .none .none)) (.block (.seq (.draw [.op 0 .pure, .op 1 .pure, .op 2 .pure, .op 3 .pure, .op 4 .pure, .op 5 .pure, .op 6 .pure, .op 8 .pure, .op 9 .pure, .op 10 .pure, .op 7 .load, .op 11 .load, .op 12 .pure, .op 13 .eff, .op 14 .pure, .op 15 .eff]) (.seq .none .none))))))))
theorem T102_ok : chkFn prog Tryz.f102 T102 = true := by kernel_rfl
def B102 (data_p0 a_p1 b_p2 : Value) (w : World) (K : Value → World → Prop) : Prop :=
  pvv prog (binOp .sub 3 b_p2 (.int .i64 1)) w fun t_0 w =>
  lp (fun σ w again_3 => pop σ fun i_1 σ => pop σ fun j_2 σ => fin σ <|
    pvv prog (binOp .lss 3 i_1 j_2) w fun t_4 w =>
    cd t_4 (
      dr w fun w =>
      pvv prog (Instr.indexAt 29 data_p0 j_2) w fun t_5 w =>
      pvv prog (Instr.indexAt 29 data_p0 i_1) w fun t_6 w =>
      bindS (vN (Instr.loadAt 3 t_5)) fun m_8 => ldv prog (Instr.loadAt 3 t_5) w fun t_7 w =>
      bindS (vN (Instr.loadAt 3 t_6)) fun m_10 => ldv prog (Instr.loadAt 3 t_6) w fun t_9 w =>
      pvv prog (Instr.indexAt 29 data_p0 i_1) w fun t_11 w =>
      efu prog (Instr.storeAt 3 t_11 t_7) w fun u_12 w =>
      pvv prog (Instr.indexAt 29 data_p0 j_2) w fun t_13 w =>
      efu prog (Instr.storeAt 3 t_13 t_9) w fun u_14 w =>
      pvv prog (binOp .add 3 i_1 (.int .i64 1)) w fun t_15 w =>
      pvv prog (binOp .sub 3 j_2 (.int .i64 1)) w fun t_16 w =>
      again_3 [t_15, t_16] w) <|
    K (.tuple #[]) w) [a_p1, t_0] w
theorem B102_eq (data_p0 a_p1 b_p2 : Value) (w : World) (K : Value → World → Prop) : denFn prog Tryz.f102 T102 [data_p0, a_p1, b_p2] w K = B102 data_p0 a_p1 b_p2 w K := by kernel_rfl
theorem c102 {data_p0 a_p1 b_p2 : Value} {w : World} {K : Value → World → Prop} (h : B102 data_p0 a_p1 b_p2 w K) : Calls prog 102 #[data_p0, a_p1, b_p2] w (Ret K) :=
  denFn_calls Tryz.func102 T102_ok (Eq.mpr (B102_eq data_p0 a_p1 b_p2 w K) h)

-- 66 (*holdfast/holdfastref03.Log).Touched
def T66 : Ann := (.seq .none (.seq .none (.seq (.seq .none (.block (.loop 8388600 [3, 4] (.seq (.seq .none (.seq .none .none)) (.meet 8386568 [3] (.block (.seq (.draw [.op 0 .pure, .op 1 .pure, .op 3 .pure, .op 4 .pure, .op 5 .pure, .op 6 .load, .op 2 .eff, .op 7 .pure]) (.seq .none .none))) .none))))) (.seq .none .none))))
theorem T66_ok : chkFn prog Tryz.f66 T66 = true := by kernel_rfl
def B66 (l_p0 : Value) (w : World) (K : Value → World → Prop) : Prop :=
  lp (fun σ w again_2 => pop σ fun out_0 σ => pop σ fun p_1 σ => fin σ <|
    Calls prog 70 #[l_p0] w (Ret fun t_3 w =>
    pvv prog (binOp .lss 3 p_1 t_3) w fun t_4 w =>
    cd t_4 (
      jn (fun σ w => pop σ fun out_5 σ => fin σ <|
        pvv prog (binOp .add 3 p_1 (.int .i64 1)) w fun t_6 w =>
        again_2 [out_5, t_6] w) fun k_7 =>
      dr w fun w =>
      pv prog (oNil l_p0) w fun t_8 w =>
      pvv prog (Instr.fieldAt 108 t_8 1) w fun t_9 w =>
      bindS (vN (Instr.loadAt 3 t_9)) fun m_11 => ldv prog (Instr.loadAt 3 t_9) w fun t_10 w =>
      Calls prog 68 #[l_p0, p_1] w (Ret fun t_12 w => stay prog none m_11 t_10 w <| 
      pvv prog (binOp .leq 3 t_12 t_10) w fun t_13 w =>
      cd t_13 (
        efv prog (Instr.buildSlice 29 1 #[(0, p_1)]) w fun t_14 w =>
        ef prog (oBi .append #[29, 29] 29 #[false, false] #[out_0, t_14]) w fun t_15 w =>
        k_7 [t_15] w) <|
      k_7 [out_0] w)) <|
    K out_0 w)) [(.slice none 0 0), (.int .i64 0)] w
theorem B66_eq (l_p0 : Value) (w : World) (K : Value → World → Prop) : denFn prog Tryz.f66 T66 [l_p0] w K = B66 l_p0 w K := by kernel_rfl
theorem c66 {l_p0 : Value} {w : World} {K : Value → World → Prop} (h : B66 l_p0 w K) : Calls prog 66 #[l_p0] w (Ret K) :=
  denFn_calls Tryz.func66 T66_ok (Eq.mpr (B66_eq l_p0 w K) h)

-- 115 slices.order2Ordered[int]
def T115 : Ann := (.seq .none (.seq (.seq (.draw [.op 0 .pure, .op 1 .pure, .op 2 .pure, .op 4 .pure, .op 5 .pure, .op 6 .pure, .op 3 .load, .op 7 .load, .op 8 .eff]) (.seq (.seq .none (.seq .none .none)) .none)) (.seq .none .none)))
theorem T115_ok : chkFn prog Tryz.f115 T115 = true := by kernel_rfl
def B115 (data_p0 a_p1 b_p2 swaps_p3 : Value) (w : World) (K : Value → World → Prop) : Prop :=
  dr w fun w =>
  pvv prog (Instr.indexAt 29 data_p0 b_p2) w fun t_0 w =>
  pvv prog (Instr.indexAt 29 data_p0 a_p1) w fun t_1 w =>
  bindS (vN (Instr.loadAt 3 t_0)) fun m_3 => ldv prog (Instr.loadAt 3 t_0) w fun t_2 w =>
  bindS (vN (Instr.loadAt 3 t_1)) fun m_5 => ldv prog (Instr.loadAt 3 t_1) w fun t_4 w =>
  Calls prog 104 #[t_2, t_4] w (Ret fun t_6 w =>
  cd t_6 (
    pv prog (oNil swaps_p3) w fun t_7 w =>
    ldv prog (Instr.loadAt 3 t_7) w fun t_8 w =>
    pvv prog (binOp .add 3 t_8 (.int .i64 1)) w fun t_9 w =>
    pv prog (oNil swaps_p3) w fun t_10 w =>
    efu prog (Instr.storeAt 3 t_10 t_9) w fun u_11 w =>
    K (.tuple #[b_p2, a_p1]) w) <|
  K (.tuple #[a_p1, b_p2]) w)
theorem B115_eq (data_p0 a_p1 b_p2 swaps_p3 : Value) (w : World) (K : Value → World → Prop) : denFn prog Tryz.f115 T115 [data_p0, a_p1, b_p2, swaps_p3] w K = B115 data_p0 a_p1 b_p2 swaps_p3 w K := by kernel_rfl
theorem c115 {data_p0 a_p1 b_p2 swaps_p3 : Value} {w : World} {K : Value → World → Prop} (h : B115 data_p0 a_p1 b_p2 swaps_p3 w K) : Calls prog 115 #[data_p0, a_p1, b_p2, swaps_p3] w (Ret K) :=
  denFn_calls Tryz.func115 T115_ok (Eq.mpr (B115_eq data_p0 a_p1 b_p2 swaps_p3 w K) h)

-- 54 holdfast/wal.set
def T54 : Ann := (.seq .none (.block (.loop 8388496 [7] (.seq .none (.seq (.seq .none .none) (.seq (.block (.seq .none .none)) .none))))))
theorem T54_ok : chkFn prog Tryz.f54 T54 = true := by kernel_rfl
def B54 (b_p0 n_p1 : Value) (w : World) (K : Value → World → Prop) : Prop :=
  pv prog (oBi .len #[60] 3 #[false] #[b_p0]) w fun t_0 w =>
  lp (fun σ w again_2 => pop σ fun t_1 σ => fin σ <|
    pvv prog (binOp .lss 3 t_1 t_0) w fun t_3 w =>
    cd t_3 (
      pv prog (oBi .len #[60] 3 #[false] #[b_p0]) w fun t_4 w =>
      pvv prog (binOp .sub 3 t_4 (.int .i64 1)) w fun t_5 w =>
      pvv prog (binOp .sub 3 t_5 t_1) w fun t_6 w =>
      pvv prog (binOp .mul 3 (.int .i64 8) t_1) w fun t_7 w =>
      pvv prog (binOp .shr 3 n_p1 t_7) w fun t_8 w =>
      pvv prog (convert 3 5 t_8) w fun t_9 w =>
      pvv prog (Instr.indexAt 60 b_p0 t_6) w fun t_10 w =>
      efu prog (Instr.storeAt 5 t_10 t_9) w fun u_11 w =>
      pvv prog (binOp .add 3 t_1 (.int .i64 1)) w fun t_12 w =>
      again_2 [t_12] w) <|
    K (.tuple #[]) w) [(.int .i64 0)] w
theorem B54_eq (b_p0 n_p1 : Value) (w : World) (K : Value → World → Prop) : denFn prog Tryz.f54 T54 [b_p0, n_p1] w K = B54 b_p0 n_p1 w K := by kernel_rfl
theorem c54 {b_p0 n_p1 : Value} {w : World} {K : Value → World → Prop} (h : B54 b_p0 n_p1 w K) : Calls prog 54 #[b_p0, n_p1] w (Ret K) :=
  denFn_calls Tryz.func54 T54_ok (Eq.mpr (B54_eq b_p0 n_p1 w K) h)

-- 49 holdfast/block.copied
def T49 : Ann := (.seq .none (.seq .none (.seq (.seq .none (.block (.loop 4192304 [11] (.seq .none (.seq (.seq .none .none) (.seq (.block (.seq .none .none)) .none)))))) (.seq .none .none))))
theorem T49_ok : chkFn prog Tryz.f49 T49 = true := by kernel_rfl
def B49 (l_p0 : Value) (w : World) (K : Value → World → Prop) : Prop :=
  pv prog (oBi .len #[32] 3 #[false] #[l_p0]) w fun t_0 w =>
  efv prog (Instr.makeSlice 32 t_0 t_0) w fun t_1 w =>
  pv prog (oBi .len #[32] 3 #[false] #[l_p0]) w fun t_2 w =>
  lp (fun σ w again_4 => pop σ fun t_3 σ => fin σ <|
    pvv prog (binOp .lss 3 t_3 t_2) w fun t_5 w =>
    cd t_5 (
      pvv prog (Instr.indexAt 32 l_p0 t_3) w fun t_6 w =>
      ldv prog (Instr.loadAt 60 t_6) w fun t_7 w =>
      Calls prog 51 #[t_7] w (Ret fun t_8 w =>
      pvv prog (Instr.indexAt 32 t_1 t_3) w fun t_9 w =>
      efu prog (Instr.storeAt 60 t_9 t_8) w fun u_10 w =>
      pvv prog (binOp .add 3 t_3 (.int .i64 1)) w fun t_11 w =>
      again_4 [t_11] w)) <|
    K t_1 w) [(.int .i64 0)] w
theorem B49_eq (l_p0 : Value) (w : World) (K : Value → World → Prop) : denFn prog Tryz.f49 T49 [l_p0] w K = B49 l_p0 w K := by kernel_rfl
theorem c49 {l_p0 : Value} {w : World} {K : Value → World → Prop} (h : B49 l_p0 w K) : Calls prog 49 #[l_p0] w (Ret K) :=
  denFn_calls Tryz.func49 T49_ok (Eq.mpr (B49_eq l_p0 w K) h)

-- 85 slices.IndexFunc[[]holdfast/api.Page,holdfast/api.Page]
def T85 : Ann := (.seq .none (.seq (.seq .none (.block (.loop 524080 [8] (.seq .none (.seq (.seq .none .none) (.seq (.block (.seq .none (.seq .none (.seq (.seq .none .none) .none)))) .none)))))) (.seq .none .none)))
theorem T85_ok : chkFn prog Tryz.f85 T85 = true := by kernel_rfl
def B85 (s_p0 f_p1 : Value) (w : World) (K : Value → World → Prop) : Prop :=
  pv prog (oBi .len #[49] 3 #[false] #[s_p0]) w fun t_0 w =>
  lp (fun σ w again_2 => pop σ fun t_1 σ => fin σ <|
    pvv prog (binOp .lss 3 t_1 t_0) w fun t_3 w =>
    cd t_3 (
      pvv prog (Instr.indexAt 49 s_p0 t_1) w fun t_4 w =>
      ldv prog (Instr.loadAt 65 t_4) w fun t_5 w =>
      ef prog (oCall f_p1 #[t_5]) w fun t_6 w =>
      cd t_6 (
        K t_1 w) <|
      pvv prog (binOp .add 3 t_1 (.int .i64 1)) w fun t_7 w =>
      again_2 [t_7] w) <|
    K (.int .i64 (-1)) w) [(.int .i64 0)] w
theorem B85_eq (s_p0 f_p1 : Value) (w : World) (K : Value → World → Prop) : denFn prog Tryz.f85 T85 [s_p0, f_p1] w K = B85 s_p0 f_p1 w K := by kernel_rfl
theorem c85 {s_p0 f_p1 : Value} {w : World} {K : Value → World → Prop} (h : B85 s_p0 f_p1 w K) : Calls prog 85 #[s_p0, f_p1] w (Ret K) :=
  denFn_calls Tryz.func85 T85_ok (Eq.mpr (B85_eq s_p0 f_p1 w K) h)

-- 95 slices.IndexFunc[[][]byte,[]byte]
def T95 : Ann := (.seq .none (.seq (.seq .none (.block (.loop 524080 [8] (.seq .none (.seq (.seq .none .none) (.seq (.block (.seq .none (.seq .none (.seq (.seq .none .none) .none)))) .none)))))) (.seq .none .none)))
theorem T95_ok : chkFn prog Tryz.f95 T95 = true := by kernel_rfl
def B95 (s_p0 f_p1 : Value) (w : World) (K : Value → World → Prop) : Prop :=
  pv prog (oBi .len #[32] 3 #[false] #[s_p0]) w fun t_0 w =>
  lp (fun σ w again_2 => pop σ fun t_1 σ => fin σ <|
    pvv prog (binOp .lss 3 t_1 t_0) w fun t_3 w =>
    cd t_3 (
      pvv prog (Instr.indexAt 32 s_p0 t_1) w fun t_4 w =>
      ldv prog (Instr.loadAt 60 t_4) w fun t_5 w =>
      ef prog (oCall f_p1 #[t_5]) w fun t_6 w =>
      cd t_6 (
        K t_1 w) <|
      pvv prog (binOp .add 3 t_1 (.int .i64 1)) w fun t_7 w =>
      again_2 [t_7] w) <|
    K (.int .i64 (-1)) w) [(.int .i64 0)] w
theorem B95_eq (s_p0 f_p1 : Value) (w : World) (K : Value → World → Prop) : denFn prog Tryz.f95 T95 [s_p0, f_p1] w K = B95 s_p0 f_p1 w K := by kernel_rfl
theorem c95 {s_p0 f_p1 : Value} {w : World} {K : Value → World → Prop} (h : B95 s_p0 f_p1 w K) : Calls prog 95 #[s_p0, f_p1] w (Ret K) :=
  denFn_calls Tryz.func95 T95_ok (Eq.mpr (B95_eq s_p0 f_p1 w K) h)

-- 65 (*holdfast/wal.Log).place
def T65 : Ann := (.seq .none (.seq (.seq .none (.seq .none (.seq (.seq .none .none) .none))) (.seq .none .none)))
theorem T65_ok : chkFn prog Tryz.f65 T65 = true := by kernel_rfl
def B65 (l_p0 n_p1 : Value) (w : World) (K : Value → World → Prop) : Prop :=
  pv prog (oNil l_p0) w fun t_0 w =>
  pvv prog (Instr.fieldAt 70 t_0 4) w fun t_1 w =>
  ldv prog (Instr.loadAt 68 t_1) w fun t_2 w =>
  ldv prog (Instr.lookup 68 t_2 n_p1 true) w fun t_3 w =>
  pvv prog (Instr.extract t_3 0) w fun t_4 w =>
  pvv prog (Instr.extract t_3 1) w fun t_5 w =>
  cd t_5 (
    K t_4 w) <|
  pv prog (oNil l_p0) w fun t_6 w =>
  pvv prog (Instr.fieldAt 70 t_6 1) w fun t_7 w =>
  ldv prog (Instr.loadAt 3 t_7) w fun t_8 w =>
  pvv prog (binOp .add 3 t_8 (.int .i64 1)) w fun t_9 w =>
  pvv prog (binOp .add 3 t_9 n_p1) w fun t_10 w =>
  K t_10 w
theorem B65_eq (l_p0 n_p1 : Value) (w : World) (K : Value → World → Prop) : denFn prog Tryz.f65 T65 [l_p0, n_p1] w K = B65 l_p0 n_p1 w K := by kernel_rfl
theorem c65 {l_p0 n_p1 : Value} {w : World} {K : Value → World → Prop} (h : B65 l_p0 n_p1 w K) : Calls prog 65 #[l_p0, n_p1] w (Ret K) :=
  denFn_calls Tryz.func65 T65_ok (Eq.mpr (B65_eq l_p0 n_p1 w K) h)

-- 60 (*holdfast/holdfastref01.Disk).Image
def T60 : Ann := (.seq .none (.seq (.seq .none (.seq (.seq .none .none) .none)) (.seq .none .none)))
theorem T60_ok : chkFn prog Tryz.f60 T60 = true := by kernel_rfl
def B60 (d_p0 : Value) (w : World) (K : Value → World → Prop) : Prop :=
  pvv prog (oEq .eql 55 (.tmp 3) (.const (.pointer none)) d_p0 (.pointer none)) w fun t_0 w =>
  cd t_0 (
    K (.slice none 0 0) w) <|
  pv prog (oNil d_p0) w fun t_1 w =>
  pvv prog (Instr.fieldAt 105 t_1 1) w fun t_2 w =>
  ldv prog (Instr.loadAt 103 t_2) w fun t_3 w =>
  pv prog (oBi .len #[103] 3 #[false] #[t_3]) w fun t_4 w =>
  Calls prog 88 #[d_p0, t_4] w (Ret fun t_5 w =>
  K t_5 w)
theorem B60_eq (d_p0 : Value) (w : World) (K : Value → World → Prop) : denFn prog Tryz.f60 T60 [d_p0] w K = B60 d_p0 w K := by kernel_rfl
theorem c60 {d_p0 : Value} {w : World} {K : Value → World → Prop} (h : B60 d_p0 w K) : Calls prog 60 #[d_p0] w (Ret K) :=
  denFn_calls Tryz.func60 T60_ok (Eq.mpr (B60_eq d_p0 w K) h)

-- 58 (*holdfast/holdfastref01.Disk).Blocks
def T58 : Ann := (.seq .none (.seq (.seq .none (.seq (.seq .none .none) .none)) (.seq .none .none)))
theorem T58_ok : chkFn prog Tryz.f58 T58 = true := by kernel_rfl
def B58 (d_p0 : Value) (w : World) (K : Value → World → Prop) : Prop :=
  pvv prog (oEq .eql 55 (.tmp 3) (.const (.pointer none)) d_p0 (.pointer none)) w fun t_0 w =>
  cd t_0 (
    K (.int .i64 0) w) <|
  pv prog (oNil d_p0) w fun t_1 w =>
  pvv prog (Instr.fieldAt 105 t_1 0) w fun t_2 w =>
  ldv prog (Instr.loadAt 32 t_2) w fun t_3 w =>
  pv prog (oBi .len #[32] 3 #[false] #[t_3]) w fun t_4 w =>
  K t_4 w
theorem B58_eq (d_p0 : Value) (w : World) (K : Value → World → Prop) : denFn prog Tryz.f58 T58 [d_p0] w K = B58 d_p0 w K := by kernel_rfl
theorem c58 {d_p0 : Value} {w : World} {K : Value → World → Prop} (h : B58 d_p0 w K) : Calls prog 58 #[d_p0] w (Ret K) :=
  denFn_calls Tryz.func58 T58_ok (Eq.mpr (B58_eq d_p0 w K) h)

-- 61 (*holdfast/holdfastref03.Log).block
def T61 : Ann := (.seq .none (.seq .none (.seq .none .none)))
theorem T61_ok : chkFn prog Tryz.f61 T61 = true := by kernel_rfl
def B61 (l_p0 n_p1 : Value) (w : World) (K : Value → World → Prop) : Prop :=
  pv prog (oNil l_p0) w fun t_0 w =>
  pvv prog (Instr.fieldAt 108 t_0 0) w fun t_1 w =>
  ldv prog (Instr.loadAt 55 t_1) w fun t_2 w =>
  Calls prog 89 #[t_2, n_p1] w (Ret fun t_3 w =>
  pvv prog (Instr.extract t_3 0) w fun t_4 w =>
  pvv prog (Instr.extract t_3 1) w fun t_5 w =>
  K t_4 w)
theorem B61_eq (l_p0 n_p1 : Value) (w : World) (K : Value → World → Prop) : denFn prog Tryz.f61 T61 [l_p0, n_p1] w K = B61 l_p0 n_p1 w K := by kernel_rfl
theorem c61 {l_p0 n_p1 : Value} {w : World} {K : Value → World → Prop} (h : B61 l_p0 n_p1 w K) : Calls prog 61 #[l_p0, n_p1] w (Ret K) :=
  denFn_calls Tryz.func61 T61_ok (Eq.mpr (B61_eq l_p0 n_p1 w K) h)

-- 12 (*holdfast/wal.Log).Used
def T12 : Ann := (.seq .none (.seq (.seq .none (.seq (.seq .none .none) .none)) (.seq .none .none)))
theorem T12_ok : chkFn prog Tryz.f12 T12 = true := by kernel_rfl
def B12 (l_p0 : Value) (w : World) (K : Value → World → Prop) : Prop :=
  pvv prog (oEq .eql 23 (.tmp 3) (.const (.pointer none)) l_p0 (.pointer none)) w fun t_0 w =>
  cd t_0 (
    K (.int .i64 0) w) <|
  pv prog (oNil l_p0) w fun t_1 w =>
  pvv prog (Instr.fieldAt 70 t_1 3) w fun t_2 w =>
  ldv prog (Instr.loadAt 3 t_2) w fun t_3 w =>
  K t_3 w
theorem B12_eq (l_p0 : Value) (w : World) (K : Value → World → Prop) : denFn prog Tryz.f12 T12 [l_p0] w K = B12 l_p0 w K := by kernel_rfl
theorem c12 {l_p0 : Value} {w : World} {K : Value → World → Prop} (h : B12 l_p0 w K) : Calls prog 12 #[l_p0] w (Ret K) :=
  denFn_calls Tryz.func12 T12_ok (Eq.mpr (B12_eq l_p0 w K) h)

-- 94 math/bits.Len
def T94 : Ann := (.seq .none (.seq (.seq (.seq .none .none) .none) (.seq .none .none)))
theorem T94_ok : chkFn prog Tryz.f94 T94 = true := by kernel_rfl
def B94 (x_p0 : Value) (w : World) (K : Value → World → Prop) : Prop :=
  cd (.bool false) (
    pvv prog (convert 111 149 x_p0) w fun t_0 w =>
    Calls prog 107 #[t_0] w (Ret fun t_1 w =>
    K t_1 w)) <|
  Calls prog 108 #[x_p0] w (Ret fun t_2 w =>
  K t_2 w)
theorem B94_eq (x_p0 : Value) (w : World) (K : Value → World → Prop) : denFn prog Tryz.f94 T94 [x_p0] w K = B94 x_p0 w K := by kernel_rfl
theorem c94 {x_p0 : Value} {w : World} {K : Value → World → Prop} (h : B94 x_p0 w K) : Calls prog 94 #[x_p0] w (Ret K) :=
  denFn_calls Tryz.func94 T94_ok (Eq.mpr (B94_eq x_p0 w K) h)

-- 57 bytes.Equal
def T57 : Ann := (.seq .none (.seq .none .none))
theorem T57_ok : chkFn prog Tryz.f57 T57 = true := by kernel_rfl
def B57 (a_p0 b_p1 : Value) (w : World) (K : Value → World → Prop) : Prop :=
  efv prog (convert 60 9 a_p0) w fun t_0 w =>
  efv prog (convert 60 9 b_p1) w fun t_1 w =>
  pvv prog (oEq .eql 9 (.tmp 6) (.tmp 8) t_0 t_1) w fun t_2 w =>
  K t_2 w
theorem B57_eq (a_p0 b_p1 : Value) (w : World) (K : Value → World → Prop) : denFn prog Tryz.f57 T57 [a_p0, b_p1] w K = B57 a_p0 b_p1 w K := by kernel_rfl
theorem c57 {a_p0 b_p1 : Value} {w : World} {K : Value → World → Prop} (h : B57 a_p0 b_p1 w K) : Calls prog 57 #[a_p0, b_p1] w (Ret K) :=
  denFn_calls Tryz.func57 T57_ok (Eq.mpr (B57_eq a_p0 b_p1 w K) h)

-- 77 holdfast/block.Load$1
def T77 : Ann := (.seq .none (.seq .none .none))
theorem T77_ok : chkFn prog Tryz.f77 T77 = true := by kernel_rfl
def B77 (b_p0 : Value) (w : World) (K : Value → World → Prop) : Prop :=
  pv prog (oBi .len #[60] 3 #[false] #[b_p0]) w fun t_0 w =>
  pvv prog (oEq .neq 3 (.tmp 4) (.const (.int .i64 256)) t_0 (.int .i64 256)) w fun t_1 w =>
  K t_1 w
theorem B77_eq (b_p0 : Value) (w : World) (K : Value → World → Prop) : denFn prog Tryz.f77 T77 [b_p0] w K = B77 b_p0 w K := by kernel_rfl
theorem c77 {b_p0 : Value} {w : World} {K : Value → World → Prop} (h : B77 b_p0 w K) : Calls prog 77 #[b_p0] w (Ret K) :=
  denFn_calls Tryz.func77 T77_ok (Eq.mpr (B77_eq b_p0 w K) h)

-- 37 slices.Sorted[int]
def T37 : Ann := (.seq .none (.seq .none (.seq .none (.seq .none .none))))
theorem T37_ok : chkFn prog Tryz.f37 T37 = true := by kernel_rfl
def B37 (seq_p0 : Value) (w : World) (K : Value → World → Prop) : Prop :=
  Calls prog 73 #[seq_p0] w (Ret fun t_0 w =>
  Calls prog 74 #[t_0] w (Ret fun t_1 w =>
  K t_0 w))
theorem B37_eq (seq_p0 : Value) (w : World) (K : Value → World → Prop) : denFn prog Tryz.f37 T37 [seq_p0] w K = B37 seq_p0 w K := by kernel_rfl
theorem c37 {seq_p0 : Value} {w : World} {K : Value → World → Prop} (h : B37 seq_p0 w K) : Calls prog 37 #[seq_p0] w (Ret K) :=
  denFn_calls Tryz.func37 T37_ok (Eq.mpr (B37_eq seq_p0 w K) h)

-- 79 holdfast/wal.zeros$1
def T79 : Ann := (.seq .none (.seq .none .none))
theorem T79_ok : chkFn prog Tryz.f79 T79 = true := by kernel_rfl
def B79 (x_p0 : Value) (w : World) (K : Value → World → Prop) : Prop :=
  pvv prog (oEq .neq 5 (.tmp 3) (.const (.int .u8 0)) x_p0 (.int .u8 0)) w fun t_0 w =>
  K t_0 w
theorem B79_eq (x_p0 : Value) (w : World) (K : Value → World → Prop) : denFn prog Tryz.f79 T79 [x_p0] w K = B79 x_p0 w K := by kernel_rfl
theorem c79 {x_p0 : Value} {w : World} {K : Value → World → Prop} (h : B79 x_p0 w K) : Calls prog 79 #[x_p0] w (Ret K) :=
  denFn_calls Tryz.func79 T79_ok (Eq.mpr (B79_eq x_p0 w K) h)


end Go.Proofs.YtgkeplodfkmnlaaGreat
