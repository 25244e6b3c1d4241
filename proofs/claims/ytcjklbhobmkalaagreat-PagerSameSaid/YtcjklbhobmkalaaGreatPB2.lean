import Derived.Test.YtcjklbhobmkalaaGreatPI
set_option linter.all false
set_option maxRecDepth 100000
namespace Go.Proofs.YtcjklbhobmkalaaGreat
open Go Hold
-- 113 slices.partialInsertionSortOrdered[int]
def T113 : Ann := (.seq .none (.seq .none (.seq (.seq .none (.block (.loop 10889035741470030830827987437816582760384 [7, 8] (.seq (.seq .none (.seq .none .none)) (.meet 10889035741470030830827987437816582637248 [7] (.block (.seq (.block (.loop 34359607424 [7] (.seq (.seq (.draw [.op 0 .pure, .op 1 .pure, .op 2 .pure, .op 3 .pure, .op 4 .pure, .op 5 .pure, .op 6 .pure, .op 8 .pure, .op 9 .pure, .op 10 .pure, .op 11 .pure, .op 7 .load, .op 12 .load, .op 13 .eff, .op 14 .pure, .op 15 .pure]) (.seq .none .none)) (.block .none)))) (.seq (.seq .none (.seq (.seq .none .none) .none)) (.seq (.seq .none (.seq (.seq .none .none) .none)) (.seq (.draw [.op 0 .pure, .op 1 .pure, .op 2 .pure, .op 3 .pure, .op 4 .pure, .op 5 .pure, .op 6 .pure, .op 7 .pure, .op 8 .pure, .op 10 .pure, .op 11 .pure, .op 12 .pure, .op 9 .load, .op 13 .load, .op 14 .pure, .op 15 .eff, .op 16 .pure, .op 17 .eff]) (.meet 39614081256843938420620263936 [] (.seq .none (.seq (.seq .none (.block (.loop 39614081238685424723062424064 [9] (.seq (.seq .none (.seq .none .none)) (.seq (.block (.seq (.seq (.draw [.op 0 .pure, .op 1 .pure, .op 2 .pure, .op 4 .pure, .op 5 .pure, .op 6 .pure, .op 7 .pure, .op 3 .load, .op 8 .load, .op 9 .eff, .op 10 .pure]) (.seq .none .none)) (.draw [.op 0 .pure, .op 1 .pure, .op 2 .pure, .op 3 .pure, .op 4 .pure, .op 5 .pure, .op 6 .pure, .op 7 .pure, .op 8 .pure, .op 10 .pure, .op 11 .pure, .op 12 .pure, .op 9 .load, .op 13 .load, .op 14 .pure, .op 15 .eff, .op 16 .pure, .op 17 .eff]))) .none))))) .none)) (.seq .none (.seq (.seq .none (.block (.loop 10889035738934729630371528634823176356864 [10] (.seq (.seq .none (.seq .none .none)) (.seq (.block (.seq (.seq (.draw [.op 0 .pure, .op 1 .pure, .op 2 .pure, .op 4 .pure, .op 5 .pure, .op 6 .pure, .op 7 .pure, .op 3 .load, .op 8 .load, .op 9 .eff, .op 10 .pure]) (.seq .none .none)) (.draw [.op 0 .pure, .op 1 .pure, .op 2 .pure, .op 3 .pure, .op 4 .pure, .op 5 .pure, .op 6 .pure, .op 7 .pure, .op 8 .pure, .op 10 .pure, .op 11 .pure, .op 12 .pure, .op 9 .load, .op 13 .load, .op 14 .pure, .op 15 .eff, .op 16 .pure, .op 17 .eff]))) .none))))) .none)))))))) .none))))) (.seq .none .none))))
theorem T113_ok : chkFn prog Tryz.f113 T113 = true := by kernel_rfl
def B113 (data_p0 a_p1 b_p2 : Value) (w : World) (K : Value → World → Prop) : Prop :=
  pvv prog (binOp .add 3 a_p1 (.int .i64 1)) w fun t_0 w =>
  lp (fun σ w again_3 => pop σ fun i_1 σ => pop σ fun j_2 σ => fin σ <|
    pvv prog (binOp .lss 3 j_2 (.int .i64 5)) w fun t_4 w =>
    cd t_4 (
      jn (fun σ w => pop σ fun i_5 σ => fin σ <|
        pvv prog (binOp .add 3 j_2 (.int .i64 1)) w fun t_6 w =>
        again_3 [i_5, t_6] w) fun k_7 =>
      lp (fun σ w again_9 => pop σ fun i_8 σ => fin σ <|
        dr w fun w =>
        pvv prog (binOp .lss 3 i_8 b_p2) w fun t_10 w =>
        gate (some (t_10, true)) (fun K => K data_p0 w) w fun t_11 w =>
        gate (some (t_10, true)) (fun K => K i_8 w) w fun t_12 w =>
        gate (some (t_10, true)) (fun K => pvv prog (Instr.indexAt 22 t_11 t_12) w K) w fun t_13 w =>
        gate (some (t_10, true)) (fun K => K data_p0 w) w fun t_14 w =>
        gate (some (t_10, true)) (fun K => K i_8 w) w fun t_15 w =>
        gate (some (t_10, true)) (fun K => pvv prog (binOp .sub 3 t_15 (.int .i64 1)) w K) w fun t_16 w =>
        gate (some (t_10, true)) (fun K => pvv prog (Instr.indexAt 22 t_14 t_16) w K) w fun t_17 w =>
        bindS (vN (Instr.loadAt 3 t_13)) fun m_19 => gate (some (t_10, true)) (fun K => ldv prog (Instr.loadAt 3 t_13) w K) w fun t_18 w =>
        bindS (vN (Instr.loadAt 3 t_17)) fun m_21 => gate (some (t_10, true)) (fun K => ldv prog (Instr.loadAt 3 t_17) w K) w fun t_20 w =>
        gate (some (t_10, true)) (fun K => Calls prog 114 #[t_18, t_20] w (Ret fun s_106 w => K s_106 w)) w fun t_22 w =>
        gate (some (t_10, true)) (fun K => pvv prog (Op.unary .not t_22) w K) w fun t_23 w =>
        pv prog (oPick t_10 t_23 (.bool false)) w fun t_24 w =>
        cd t_24 (
          pvv prog (binOp .add 3 i_8 (.int .i64 1)) w fun t_25 w =>
          again_9 [t_25] w) <|
        pvv prog (oEq .eql 3 (.tmp 35) (.tmp 36) i_8 b_p2) w fun t_26 w =>
        cd t_26 (
          K (.bool true) w) <|
        pvv prog (binOp .sub 3 b_p2 a_p1) w fun t_27 w =>
        pvv prog (binOp .lss 3 t_27 (.int .i64 50)) w fun t_28 w =>
        cd t_28 (
          K (.bool false) w) <|
        dr w fun w =>
        pvv prog (binOp .sub 3 i_8 (.int .i64 1)) w fun t_29 w =>
        pvv prog (binOp .sub 3 i_8 (.int .i64 1)) w fun t_30 w =>
        pvv prog (Instr.indexAt 22 data_p0 t_30) w fun t_31 w =>
        pvv prog (Instr.indexAt 22 data_p0 i_8) w fun t_32 w =>
        bindS (vN (Instr.loadAt 3 t_31)) fun m_34 => ldv prog (Instr.loadAt 3 t_31) w fun t_33 w =>
        bindS (vN (Instr.loadAt 3 t_32)) fun m_36 => ldv prog (Instr.loadAt 3 t_32) w fun t_35 w =>
        pvv prog (Instr.indexAt 22 data_p0 i_8) w fun t_37 w =>
        efu prog (Instr.storeAt 3 t_37 t_33) w fun u_38 w =>
        pvv prog (Instr.indexAt 22 data_p0 t_29) w fun t_39 w =>
        efu prog (Instr.storeAt 3 t_39 t_35) w fun u_40 w =>
        jn (fun σ w => fin σ <|
          pvv prog (binOp .sub 3 b_p2 i_8) w fun t_41 w =>
          pvv prog (binOp .geq 3 t_41 (.int .i64 2)) w fun t_42 w =>
          cd t_42 (
            pvv prog (binOp .add 3 i_8 (.int .i64 1)) w fun t_43 w =>
            lp (fun σ w again_45 => pop σ fun j_44 σ => fin σ <|
              pvv prog (binOp .lss 3 j_44 b_p2) w fun t_46 w =>
              cd t_46 (
                dr w fun w =>
                pvv prog (Instr.indexAt 22 data_p0 j_44) w fun t_47 w =>
                pvv prog (binOp .sub 3 j_44 (.int .i64 1)) w fun t_48 w =>
                pvv prog (Instr.indexAt 22 data_p0 t_48) w fun t_49 w =>
                bindS (vN (Instr.loadAt 3 t_47)) fun m_51 => ldv prog (Instr.loadAt 3 t_47) w fun t_50 w =>
                bindS (vN (Instr.loadAt 3 t_49)) fun m_53 => ldv prog (Instr.loadAt 3 t_49) w fun t_52 w =>
                Calls prog 114 #[t_50, t_52] w (Ret fun t_54 w =>
                pvv prog (Op.unary .not t_54) w fun t_55 w =>
                cd t_55 (
                  k_7 [i_8] w) <|
                dr w fun w =>
                pvv prog (binOp .sub 3 j_44 (.int .i64 1)) w fun t_56 w =>
                pvv prog (binOp .sub 3 j_44 (.int .i64 1)) w fun t_57 w =>
                pvv prog (Instr.indexAt 22 data_p0 t_57) w fun t_58 w =>
                pvv prog (Instr.indexAt 22 data_p0 j_44) w fun t_59 w =>
                bindS (vN (Instr.loadAt 3 t_58)) fun m_61 => ldv prog (Instr.loadAt 3 t_58) w fun t_60 w =>
                bindS (vN (Instr.loadAt 3 t_59)) fun m_63 => ldv prog (Instr.loadAt 3 t_59) w fun t_62 w =>
                pvv prog (Instr.indexAt 22 data_p0 j_44) w fun t_64 w =>
                efu prog (Instr.storeAt 3 t_64 t_60) w fun u_65 w =>
                pvv prog (Instr.indexAt 22 data_p0 t_56) w fun t_66 w =>
                efu prog (Instr.storeAt 3 t_66 t_62) w fun u_67 w =>
                pvv prog (binOp .add 3 j_44 (.int .i64 1)) w fun t_68 w =>
                again_45 [t_68] w)) <|
              k_7 [i_8] w) [t_43] w) <|
          k_7 [i_8] w) fun k_72 =>
        pvv prog (binOp .sub 3 i_8 a_p1) w fun t_73 w =>
        pvv prog (binOp .geq 3 t_73 (.int .i64 2)) w fun t_74 w =>
        cd t_74 (
          pvv prog (binOp .sub 3 i_8 (.int .i64 1)) w fun t_75 w =>
          lp (fun σ w again_77 => pop σ fun j_76 σ => fin σ <|
            pvv prog (binOp .geq 3 j_76 (.int .i64 1)) w fun t_78 w =>
            cd t_78 (
              dr w fun w =>
              pvv prog (Instr.indexAt 22 data_p0 j_76) w fun t_79 w =>
              pvv prog (binOp .sub 3 j_76 (.int .i64 1)) w fun t_80 w =>
              pvv prog (Instr.indexAt 22 data_p0 t_80) w fun t_81 w =>
              bindS (vN (Instr.loadAt 3 t_79)) fun m_83 => ldv prog (Instr.loadAt 3 t_79) w fun t_82 w =>
              bindS (vN (Instr.loadAt 3 t_81)) fun m_85 => ldv prog (Instr.loadAt 3 t_81) w fun t_84 w =>
              Calls prog 114 #[t_82, t_84] w (Ret fun t_86 w =>
              pvv prog (Op.unary .not t_86) w fun t_87 w =>
              cd t_87 (
                k_72 [] w) <|
              dr w fun w =>
              pvv prog (binOp .sub 3 j_76 (.int .i64 1)) w fun t_88 w =>
              pvv prog (binOp .sub 3 j_76 (.int .i64 1)) w fun t_89 w =>
              pvv prog (Instr.indexAt 22 data_p0 t_89) w fun t_90 w =>
              pvv prog (Instr.indexAt 22 data_p0 j_76) w fun t_91 w =>
              bindS (vN (Instr.loadAt 3 t_90)) fun m_93 => ldv prog (Instr.loadAt 3 t_90) w fun t_92 w =>
              bindS (vN (Instr.loadAt 3 t_91)) fun m_95 => ldv prog (Instr.loadAt 3 t_91) w fun t_94 w =>
              pvv prog (Instr.indexAt 22 data_p0 j_76) w fun t_96 w =>
              efu prog (Instr.storeAt 3 t_96 t_92) w fun u_97 w =>
              pvv prog (Instr.indexAt 22 data_p0 t_88) w fun t_98 w =>
              efu prog (Instr.storeAt 3 t_98 t_94) w fun u_99 w =>
              pvv prog (binOp .sub 3 j_76 (.int .i64 1)) w fun t_100 w =>
              again_77 [t_100] w)) <|
            k_72 [] w) [t_75] w) <|
        k_72 [] w) [i_1] w) <|
    K (.bool false) w) [t_0, (.int .i64 0)] w
theorem B113_eq (data_p0 a_p1 b_p2 : Value) (w : World) (K : Value → World → Prop) : denFn prog Tryz.f113 T113 [data_p0, a_p1, b_p2] w K = B113 data_p0 a_p1 b_p2 w K := by kernel_rfl
theorem c113 {data_p0 a_p1 b_p2 : Value} {w : World} {K : Value → World → Prop} (h : B113 data_p0 a_p1 b_p2 w K) : Calls prog 113 #[data_p0, a_p1, b_p2] w (Ret K) :=
  denFn_calls Tryz.func113 T113_ok (Eq.mpr (B113_eq data_p0 a_p1 b_p2 w K) h)

-- 35 holdfast/holdfastref03.Open
def T35 : Ann := (.seq .none (.seq (.seq .none (.seq (.seq .none .none) .none)) (.seq (.seq .none (.seq (.seq .none .none) .none)) (.seq .none (.seq .none (.seq .none (.seq (.seq .none (.seq (.seq .none .none) .none)) (.seq (.seq .none (.seq (.seq .none .none) .none)) (.seq (.seq .none (.block (.loop 604460603964305373660160 [10] (.seq (.seq .none (.seq .none .none)) (.seq (.block (.draw [.op 0 .pure, .op 1 .pure, .op 2 .pure, .op 3 .pure, .op 6 .pure, .op 7 .pure, .op 8 .pure, .op 4 .load, .op 5 .pure, .op 9 .load, .op 10 .pure, .op 11 .pure, .op 12 .pure, .op 13 .pure, .op 14 .eff])) .none))))) (.seq .none (.seq (.seq .none (.seq (.seq .none .none) .none)) (.seq (.seq .none (.block (.loop 10384592479129615971680717759330352 [11] (.seq (.seq .none (.seq .none .none)) (.block (.seq .none (.seq (.seq .none (.seq (.seq .none .none) .none)) .none))))))) (.seq .none .none)))))))))))))
theorem T35_ok : chkFn prog Tryz.f35 T35 = true := by kernel_rfl
def B35 (d_p0 size_p1 : Value) (w : World) (K : Value → World → Prop) : Prop :=
  pvv prog (oEq .eql 62 (.tmp 14) (.const (.pointer none)) d_p0 (.pointer none)) w fun t_0 w =>
  cd t_0 (
    K (.tuple #[(.pointer none), (.int .i64 1)]) w) <|
  pvv prog (binOp .lss 3 size_p1 (.int .i64 2)) w fun t_1 w =>
  gate (some (t_1, false)) (fun K => K size_p1 w) w fun t_2 w =>
  gate (some (t_1, false)) (fun K => K d_p0 w) w fun t_3 w =>
  gate (some (t_1, false)) (fun K => Calls prog 60 #[t_3] w (Ret K)) w fun t_4 w =>
  gate (some (t_1, false)) (fun K => pvv prog (binOp .sub 3 t_4 (.int .i64 2)) w K) w fun t_5 w =>
  gate (some (t_1, false)) (fun K => pvv prog (binOp .gtr 3 t_2 t_5) w K) w fun t_6 w =>
  pv prog (oPick t_1 (.bool true) t_6) w fun t_7 w =>
  cd t_7 (
    K (.tuple #[(.pointer none), (.int .i64 2)]) w) <|
  Calls prog 62 #[d_p0] w (Ret fun t_8 w =>
  Calls prog 61 #[t_8] w (Ret fun t_9 w =>
  pvv prog (Instr.extract t_9 0) w fun t_10 w =>
  pvv prog (Instr.extract t_9 1) w fun t_11 w =>
  pvv prog (Instr.build 118 #[(0, t_10), (1, size_p1)]) w fun t_12 w =>
  efv prog (Instr.box 118 t_12) w fun t_13 w =>
  Calls prog 63 #[t_13, (.int .i64 0)] w (Ret fun t_14 w =>
  Calls prog 64 #[t_14, (.int .i64 0)] w (Ret fun t_15 w =>
  cd t_15 (
    K (.tuple #[t_13, (.int .i64 0)]) w) <|
  pvv prog (Instr.indexAt 30 t_14 (.int .i64 0)) w fun t_16 w =>
  ldv prog (Instr.loadAt 5 t_16) w fun t_17 w =>
  pvv prog (oEq .neq 5 (.tmp 42) (.const (.int .u8 72)) t_17 (.int .u8 72)) w fun t_18 w =>
  gate (some (t_18, false)) (fun K => K t_14 w) w fun t_19 w =>
  gate (some (t_18, false)) (fun K => pvv prog (Instr.indexAt 30 t_19 (.int .i64 1)) w K) w fun t_20 w =>
  gate (some (t_18, false)) (fun K => ldv prog (Instr.loadAt 5 t_20) w K) w fun t_21 w =>
  gate (some (t_18, false)) (fun K => pvv prog (oEq .neq 5 (.tmp 47) (.const (.int .u8 70)) t_21 (.int .u8 70)) w K) w fun t_22 w =>
  pv prog (oPick t_18 (.bool true) t_22) w fun t_23 w =>
  gate (some (t_23, false)) (fun K => K t_14 w) w fun t_24 w =>
  gate (some (t_23, false)) (fun K => pvv prog (Instr.indexAt 30 t_24 (.int .i64 2)) w K) w fun t_25 w =>
  gate (some (t_23, false)) (fun K => ldv prog (Instr.loadAt 5 t_25) w K) w fun t_26 w =>
  gate (some (t_23, false)) (fun K => pvv prog (binOp .geq 5 t_26 (.int .u8 128)) w K) w fun t_27 w =>
  pv prog (oPick t_23 (.bool true) t_27) w fun t_28 w =>
  gate (some (t_28, false)) (fun K => K t_14 w) w fun t_29 w =>
  gate (some (t_28, false)) (fun K => Calls prog 64 #[t_29, (.int .i64 12)] w (Ret K)) w fun t_30 w =>
  gate (some (t_28, false)) (fun K => pvv prog (Op.unary .not t_30) w K) w fun t_31 w =>
  pv prog (oPick t_28 (.bool true) t_31) w fun t_32 w =>
  cd t_32 (
    K (.tuple #[(.pointer none), (.int .i64 15)]) w) <|
  lp (fun σ w again_34 => pop σ fun i_33 σ => fin σ <|
    pvv prog (binOp .lss 3 i_33 (.int .i64 10)) w fun t_35 w =>
    cd t_35 (
      dr w fun w =>
      pv prog (oNil t_13) w fun t_36 w =>
      pvv prog (Instr.fieldAt 118 t_36 2) w fun t_37 w =>
      pvv prog (Instr.indexAt 30 t_14 i_33) w fun t_38 w =>
      bindS (vN (Instr.loadAt 3 t_37)) fun m_40 => ldv prog (Instr.loadAt 3 t_37) w fun t_39 w =>
      pvv prog (binOp .shl 3 t_39 (.int .u64 8)) w fun t_41 w =>
      bindS (vN (Instr.loadAt 5 t_38)) fun m_43 => ldv prog (Instr.loadAt 5 t_38) w fun t_42 w =>
      pvv prog (convert 5 3 t_42) w fun t_44 w =>
      pvv prog (binOp .or 3 t_41 t_44) w fun t_45 w =>
      pv prog (oNil t_13) w fun t_46 w =>
      pvv prog (Instr.fieldAt 118 t_46 2) w fun t_47 w =>
      efu prog (Instr.storeAt 3 t_47 t_45) w fun u_48 w =>
      pvv prog (binOp .add 3 i_33 (.int .i64 1)) w fun t_49 w =>
      again_34 [t_49] w) <|
    Calls prog 65 #[t_14, (.int .i64 10)] w (Ret fun t_51 w =>
    pv prog (oNil t_13) w fun t_52 w =>
    pvv prog (Instr.fieldAt 118 t_52 3) w fun t_53 w =>
    efu prog (Instr.storeAt 3 t_53 t_51) w fun u_54 w =>
    pv prog (oNil t_13) w fun t_55 w =>
    pvv prog (Instr.fieldAt 118 t_55 3) w fun t_56 w =>
    ldv prog (Instr.loadAt 3 t_56) w fun t_57 w =>
    pvv prog (binOp .gtr 3 t_57 size_p1) w fun t_58 w =>
    cd t_58 (
      K (.tuple #[(.pointer none), (.int .i64 15)]) w) <|
    lp (fun σ w again_60 => pop σ fun n_59 σ => fin σ <|
      pv prog (oNil t_13) w fun t_61 w =>
      pvv prog (Instr.fieldAt 118 t_61 3) w fun t_62 w =>
      ldv prog (Instr.loadAt 3 t_62) w fun t_63 w =>
      pvv prog (binOp .leq 3 n_59 t_63) w fun t_64 w =>
      cd t_64 (
        pv prog (oNil t_13) w fun t_65 w =>
        pvv prog (Instr.fieldAt 118 t_65 3) w fun t_66 w =>
        ldv prog (Instr.loadAt 3 t_66) w fun t_67 w =>
        Calls prog 66 #[t_13, n_59, t_67] w (Ret fun t_68 w =>
        pvv prog (Instr.extract t_68 0) w fun t_69 w =>
        pvv prog (Instr.extract t_68 1) w fun t_70 w =>
        pvv prog (Op.unary .not t_70) w fun t_71 w =>
        cd t_71 (
          K (.tuple #[(.pointer none), (.int .i64 15)]) w) <|
        pv prog (oBi .len #[22] 3 #[false] #[t_69]) w fun t_72 w =>
        pvv prog (binOp .add 3 (.int .i64 1) t_72) w fun t_73 w =>
        pvv prog (binOp .add 3 n_59 t_73) w fun t_74 w =>
        again_60 [t_74] w)) <|
      K (.tuple #[t_13, (.int .i64 0)]) w) [(.int .i64 1)] w)) [(.int .i64 2)] w))))
theorem B35_eq (d_p0 size_p1 : Value) (w : World) (K : Value → World → Prop) : denFn prog Tryz.f35 T35 [d_p0, size_p1] w K = B35 d_p0 size_p1 w K := by kernel_rfl
theorem c35 {d_p0 size_p1 : Value} {w : World} {K : Value → World → Prop} (h : B35 d_p0 size_p1 w K) : Calls prog 35 #[d_p0, size_p1] w (Ret K) :=
  denFn_calls Tryz.func35 T35_ok (Eq.mpr (B35_eq d_p0 size_p1 w K) h)

-- 28 holdfast/wal.Open
def T28 : Ann := (.seq .none (.seq (.block (.seq .none (.seq (.seq .none .none) (.seq .none (.seq (.seq .none .none) .none))))) (.seq .none (.seq .none (.seq .none (.seq (.seq .none (.seq (.seq .none .none) .none)) (.seq (.draw [.op 0 .pure, .op 1 .pure, .op 2 .pure, .op 3 .pure, .op 5 .pure, .op 6 .pure, .op 4 .eff, .op 7 .eff, .op 8 .pure, .op 9 .pure, .op 10 .eff, .op 11 .pure, .op 12 .pure, .op 13 .eff]) (.seq (.seq .none (.seq (.seq .none .none) .none)) (.seq (.seq .none (.block (.loop 20281790633632027733809801730096 [11] (.seq (.seq .none (.seq .none .none)) (.block (.seq .none (.seq (.seq .none (.seq (.seq .none .none) .none)) .none))))))) (.seq .none .none))))))))))
theorem T28_ok : chkFn prog Tryz.f28 T28 = true := by kernel_rfl
def B28 (d_p0 size_p1 : Value) (w : World) (K : Value → World → Prop) : Prop :=
  pvv prog (oEq .eql 48 (.tmp 14) (.const (.pointer none)) d_p0 (.pointer none)) w fun t_0 w =>
  cd t_0 (
    K (.tuple #[(.pointer none), (.int .i64 1)]) w) <|
  pvv prog (binOp .lss 3 size_p1 (.int .i64 2)) w fun t_1 w =>
  gate (some (t_1, false)) (fun K => K size_p1 w) w fun t_2 w =>
  gate (some (t_1, false)) (fun K => K d_p0 w) w fun t_3 w =>
  gate (some (t_1, false)) (fun K => Calls prog 53 #[t_3] w (Ret K)) w fun t_4 w =>
  gate (some (t_1, false)) (fun K => pvv prog (binOp .sub 3 t_4 (.int .i64 2)) w K) w fun t_5 w =>
  gate (some (t_1, false)) (fun K => pvv prog (binOp .gtr 3 t_2 t_5) w K) w fun t_6 w =>
  pv prog (oPick t_1 (.bool true) t_6) w fun t_7 w =>
  cd t_7 (
    K (.tuple #[(.pointer none), (.int .i64 2)]) w) <|
  Calls prog 24 #[d_p0] w (Ret fun t_8 w =>
  Calls prog 54 #[t_8] w (Ret fun t_9 w =>
  pvv prog (Instr.extract t_9 0) w fun t_10 w =>
  pvv prog (Instr.extract t_9 1) w fun t_11 w =>
  pvv prog (Instr.build 94 #[(0, t_10)]) w fun t_12 w =>
  efv prog (Instr.makeMap 95 none) w fun t_13 w =>
  pvv prog (Instr.build 97 #[(0, t_12), (1, size_p1), (4, t_13)]) w fun t_14 w =>
  efv prog (Instr.box 97 t_14) w fun t_15 w =>
  Calls prog 55 #[t_10, (.int .i64 0)] w (Ret fun t_16 w =>
  pvv prog (Instr.extract t_16 0) w fun t_17 w =>
  pvv prog (Instr.extract t_16 1) w fun t_18 w =>
  Calls prog 56 #[t_17] w (Ret fun t_19 w =>
  cd t_19 (
    K (.tuple #[t_15, (.int .i64 0)]) w) <|
  dr w fun w =>
  pvv prog (Instr.sliceAt 30 t_17 (some (.int .i64 2)) (some (.int .i64 10)) none) w fun t_20 w =>
  pvv prog (Instr.sliceAt 30 t_17 (some (.int .i64 10)) none none) w fun t_21 w =>
  Calls prog 57 #[t_20] w (Ret fun t_22 w =>
  Calls prog 58 #[t_21] w (Ret fun t_23 w =>
  pv prog (oNil t_15) w fun t_24 w =>
  pvv prog (Instr.fieldAt 97 t_24 2) w fun t_25 w =>
  efu prog (Instr.storeAt 3 t_25 t_22) w fun u_26 w =>
  pv prog (oNil t_15) w fun t_27 w =>
  pvv prog (Instr.fieldAt 97 t_27 3) w fun t_28 w =>
  efu prog (Instr.storeAt 3 t_28 t_23) w fun u_29 w =>
  pvv prog (Instr.indexAt 30 t_17 (.int .i64 0)) w fun t_30 w =>
  ldv prog (Instr.loadAt 5 t_30) w fun t_31 w =>
  pvv prog (oEq .neq 5 (.tmp 60) (.const (.int .u8 72)) t_31 (.int .u8 72)) w fun t_32 w =>
  gate (some (t_32, false)) (fun K => K t_17 w) w fun t_33 w =>
  gate (some (t_32, false)) (fun K => pvv prog (Instr.indexAt 30 t_33 (.int .i64 1)) w K) w fun t_34 w =>
  gate (some (t_32, false)) (fun K => ldv prog (Instr.loadAt 5 t_34) w K) w fun t_35 w =>
  gate (some (t_32, false)) (fun K => pvv prog (oEq .neq 5 (.tmp 65) (.const (.int .u8 70)) t_35 (.int .u8 70)) w K) w fun t_36 w =>
  pv prog (oPick t_32 (.bool true) t_36) w fun t_37 w =>
  gate (some (t_37, false)) (fun K => K t_15 w) w fun t_38 w =>
  gate (some (t_37, false)) (fun K => pv prog (oNil t_38) w K) w fun t_39 w =>
  gate (some (t_37, false)) (fun K => pvv prog (Instr.fieldAt 97 t_39 2) w K) w fun t_40 w =>
  gate (some (t_37, false)) (fun K => ldv prog (Instr.loadAt 3 t_40) w K) w fun t_41 w =>
  gate (some (t_37, false)) (fun K => pvv prog (binOp .lss 3 t_41 (.int .i64 0)) w K) w fun t_42 w =>
  pv prog (oPick t_37 (.bool true) t_42) w fun t_43 w =>
  gate (some (t_43, false)) (fun K => K t_17 w) w fun t_44 w =>
  gate (some (t_43, false)) (fun K => pvv prog (Instr.sliceAt 30 t_44 (some (.int .i64 12)) none none) w K) w fun t_45 w =>
  gate (some (t_43, false)) (fun K => Calls prog 56 #[t_45] w (Ret K)) w fun t_46 w =>
  gate (some (t_43, false)) (fun K => pvv prog (Op.unary .not t_46) w K) w fun t_47 w =>
  pv prog (oPick t_43 (.bool true) t_47) w fun t_48 w =>
  gate (some (t_48, false)) (fun K => K t_15 w) w fun t_49 w =>
  gate (some (t_48, false)) (fun K => pv prog (oNil t_49) w K) w fun t_50 w =>
  gate (some (t_48, false)) (fun K => pvv prog (Instr.fieldAt 97 t_50 3) w K) w fun t_51 w =>
  gate (some (t_48, false)) (fun K => ldv prog (Instr.loadAt 3 t_51) w K) w fun t_52 w =>
  gate (some (t_48, false)) (fun K => K size_p1 w) w fun t_53 w =>
  gate (some (t_48, false)) (fun K => pvv prog (binOp .gtr 3 t_52 t_53) w K) w fun t_54 w =>
  pv prog (oPick t_48 (.bool true) t_54) w fun t_55 w =>
  cd t_55 (
    K (.tuple #[(.pointer none), (.int .i64 15)]) w) <|
  lp (fun σ w again_57 => pop σ fun n_56 σ => fin σ <|
    pv prog (oNil t_15) w fun t_58 w =>
    pvv prog (Instr.fieldAt 97 t_58 3) w fun t_59 w =>
    ldv prog (Instr.loadAt 3 t_59) w fun t_60 w =>
    pvv prog (binOp .leq 3 n_56 t_60) w fun t_61 w =>
    cd t_61 (
      Calls prog 59 #[t_15, n_56] w (Ret fun t_62 w =>
      pvv prog (oEq .eql 3 (.tmp 98) (.const (.int .i64 0)) t_62 (.int .i64 0)) w fun t_63 w =>
      cd t_63 (
        K (.tuple #[(.pointer none), (.int .i64 15)]) w) <|
      pvv prog (binOp .add 3 t_62 (.int .i64 1)) w fun t_64 w =>
      pvv prog (binOp .add 3 n_56 t_64) w fun t_65 w =>
      again_57 [t_65] w)) <|
    K (.tuple #[t_15, (.int .i64 0)]) w) [(.int .i64 1)] w))))))
theorem B28_eq (d_p0 size_p1 : Value) (w : World) (K : Value → World → Prop) : denFn prog Tryz.f28 T28 [d_p0, size_p1] w K = B28 d_p0 size_p1 w K := by kernel_rfl
theorem c28 {d_p0 size_p1 : Value} {w : World} {K : Value → World → Prop} (h : B28 d_p0 size_p1 w K) : Calls prog 28 #[d_p0, size_p1] w (Ret K) :=
  denFn_calls Tryz.func28 T28_ok (Eq.mpr (B28_eq d_p0 size_p1 w K) h)

-- 8 holdfast/holdfastlaw04.PagerNone
def T8 : Ann := (.seq .none (.seq .none (.seq .none (.seq .none (.seq .none .none)))))
theorem T8_ok : chkFn prog Tryz.f8 T8 = true := by kernel_rfl
def B8 (n_p0 : Value) (w : World) (K : Value → World → Prop) : Prop :=
  Calls prog 29 #[(.pointer none), n_p0] w (Ret fun t_0 w =>
  pvv prog (Instr.extract t_0 0) w fun t_1 w =>
  pvv prog (Instr.extract t_0 1) w fun t_2 w =>
  Calls prog 14 #[(.pointer none), n_p0] w (Ret fun t_3 w =>
  pvv prog (Instr.extract t_3 0) w fun t_4 w =>
  pvv prog (Instr.extract t_3 1) w fun t_5 w =>
  Calls prog 10 #[] w (Ret fun t_6 w =>
  gate (some (t_6, true)) (fun K => K t_2 w) w fun t_7 w =>
  gate (some (t_6, true)) (fun K => pvv prog (oEq .eql 32 (.tmp 21) (.const (.int .i64 1)) t_7 (.int .i64 1)) w K) w fun t_8 w =>
  pv prog (oPick t_6 t_8 (.bool false)) w fun t_9 w =>
  gate (some (t_9, true)) (fun K => K t_5 w) w fun t_10 w =>
  gate (some (t_9, true)) (fun K => pvv prog (oEq .eql 32 (.tmp 25) (.const (.int .i64 1)) t_10 (.int .i64 1)) w K) w fun t_11 w =>
  pv prog (oPick t_9 t_11 (.bool false)) w fun t_12 w =>
  gate (some (t_12, true)) (fun K => K (.pointer none) w) w fun t_13 w =>
  gate (some (t_12, true)) (fun K => K n_p0 w) w fun t_14 w =>
  gate (some (t_12, true)) (fun K => Calls prog 12 #[t_13, t_14, (.slice none 0 0)] w (Ret K)) w fun t_15 w =>
  gate (some (t_12, true)) (fun K => pvv prog (oEq .eql 32 (.tmp 31) (.const (.int .i64 1)) t_15 (.int .i64 1)) w K) w fun t_16 w =>
  pv prog (oPick t_12 t_16 (.bool false)) w fun t_17 w =>
  gate (some (t_17, true)) (fun K => K (.pointer none) w) w fun t_18 w =>
  gate (some (t_17, true)) (fun K => Calls prog 18 #[t_18] w (Ret K)) w fun t_19 w =>
  gate (some (t_17, true)) (fun K => pvv prog (oEq .eql 32 (.tmp 36) (.const (.int .i64 1)) t_19 (.int .i64 1)) w K) w fun t_20 w =>
  pv prog (oPick t_17 t_20 (.bool false)) w fun t_21 w =>
  gate (some (t_21, true)) (fun K => K (.pointer none) w) w fun t_22 w =>
  gate (some (t_21, true)) (fun K => Calls prog 20 #[t_22] w (Ret K)) w fun t_23 w =>
  gate (some (t_21, true)) (fun K => pvv prog (oEq .eql 3 (.tmp 41) (.const (.int .i64 0)) t_23 (.int .i64 0)) w K) w fun t_24 w =>
  pv prog (oPick t_21 t_24 (.bool false)) w fun t_25 w =>
  gate (some (t_25, true)) (fun K => K (.pointer none) w) w fun t_26 w =>
  gate (some (t_25, true)) (fun K => K n_p0 w) w fun t_27 w =>
  gate (some (t_25, true)) (fun K => efv prog (Instr.buildSlice 22 1 #[(0, t_27)]) w K) w fun t_28 w =>
  gate (some (t_25, true)) (fun K => Calls prog 25 #[t_26, t_28] w (Ret K)) w fun t_29 w =>
  gate (some (t_25, true)) (fun K => pvv prog (oEq .eql 32 (.tmp 48) (.const (.int .i64 1)) t_29 (.int .i64 1)) w K) w fun t_30 w =>
  pv prog (oPick t_25 t_30 (.bool false)) w fun t_31 w =>
  gate (some (t_31, true)) (fun K => K (.pointer none) w) w fun t_32 w =>
  gate (some (t_31, true)) (fun K => K n_p0 w) w fun t_33 w =>
  gate (some (t_31, true)) (fun K => efv prog (Instr.buildSlice 22 1 #[(0, t_33)]) w K) w fun t_34 w =>
  gate (some (t_31, true)) (fun K => Calls prog 30 #[t_32, t_34] w (Ret K)) w fun t_35 w =>
  gate (some (t_31, true)) (fun K => pvv prog (oEq .eql 32 (.tmp 55) (.const (.int .i64 1)) t_35 (.int .i64 1)) w K) w fun t_36 w =>
  pv prog (oPick t_31 t_36 (.bool false)) w fun t_37 w =>
  gate (some (t_37, true)) (fun K => K (.pointer none) w) w fun t_38 w =>
  gate (some (t_37, true)) (fun K => Calls prog 19 #[t_38] w (Ret K)) w fun t_39 w =>
  gate (some (t_37, true)) (fun K => pv prog (oBi .len #[22] 3 #[false] #[t_39]) w K) w fun t_40 w =>
  gate (some (t_37, true)) (fun K => pvv prog (oEq .eql 3 (.tmp 61) (.const (.int .i64 0)) t_40 (.int .i64 0)) w K) w fun t_41 w =>
  pv prog (oPick t_37 t_41 (.bool false)) w fun t_42 w =>
  gate (some (t_42, true)) (fun K => K (.pointer none) w) w fun t_43 w =>
  gate (some (t_42, true)) (fun K => Calls prog 21 #[t_43] w (Ret K)) w fun t_44 w =>
  gate (some (t_42, true)) (fun K => pv prog (oBi .len #[22] 3 #[false] #[t_44]) w K) w fun t_45 w =>
  gate (some (t_42, true)) (fun K => pvv prog (oEq .eql 3 (.tmp 67) (.const (.int .i64 0)) t_45 (.int .i64 0)) w K) w fun t_46 w =>
  pv prog (oPick t_42 t_46 (.bool false)) w fun t_47 w =>
  gate (some (t_47, true)) (fun K => K (.pointer none) w) w fun t_48 w =>
  gate (some (t_47, true)) (fun K => Calls prog 31 #[t_48] w (Ret K)) w fun t_49 w =>
  gate (some (t_47, true)) (fun K => pvv prog (oEq .eql 3 (.tmp 72) (.const (.int .i64 0)) t_49 (.int .i64 0)) w K) w fun t_50 w =>
  pv prog (oPick t_47 t_50 (.bool false)) w fun t_51 w =>
  gate (some (t_51, true)) (fun K => K (.pointer none) w) w fun t_52 w =>
  gate (some (t_51, true)) (fun K => Calls prog 32 #[t_52] w (Ret K)) w fun t_53 w =>
  gate (some (t_51, true)) (fun K => pvv prog (oEq .eql 3 (.tmp 77) (.const (.int .i64 0)) t_53 (.int .i64 0)) w K) w fun t_54 w =>
  pv prog (oPick t_51 t_54 (.bool false)) w fun t_55 w =>
  gate (some (t_55, true)) (fun K => K (.pointer none) w) w fun t_56 w =>
  gate (some (t_55, true)) (fun K => Calls prog 17 #[t_56] w (Ret K)) w fun t_57 w =>
  gate (some (t_55, true)) (fun K => pvv prog (oEq .eql 42 (.tmp 82) (.const (.pointer none)) t_57 (.pointer none)) w K) w fun t_58 w =>
  pv prog (oPick t_55 t_58 (.bool false)) w fun t_59 w =>
  K t_59 w)))
theorem B8_eq (n_p0 : Value) (w : World) (K : Value → World → Prop) : denFn prog Tryz.f8 T8 [n_p0] w K = B8 n_p0 w K := by kernel_rfl
theorem c8 {n_p0 : Value} {w : World} {K : Value → World → Prop} (h : B8 n_p0 w K) : Calls prog 8 #[n_p0] w (Ret K) :=
  denFn_calls Tryz.func8 T8_ok (Eq.mpr (B8_eq n_p0 w K) h)

-- 59 (*holdfast/wal.Log).group
def T59 : Ann := (.seq .none (.seq .none (.seq .none (.seq (.seq .none (.seq (.seq .none .none) .none)) (.seq .none (.seq (.seq .none (.block (.loop 302231454340707340257040 [8, 49] (.seq .none (.seq (.seq .none .none) (.seq (.block (.seq .none (.seq .none (.seq (.seq .none (.seq (.seq .none .none) .none)) (.seq .none .none))))) .none)))))) (.seq .none .none)))))))
theorem T59_ok : chkFn prog Tryz.f59 T59 = true := by kernel_rfl
def B59 (l_p0 n_p1 : Value) (w : World) (K : Value → World → Prop) : Prop :=
  pv prog (oNil l_p0) w fun t_0 w =>
  pvv prog (Instr.fieldAt 97 t_0 0) w fun t_1 w =>
  pvv prog (Instr.fieldAt 94 t_1 0) w fun t_2 w =>
  ldv prog (Instr.loadAt 48 t_2) w fun t_3 w =>
  Calls prog 55 #[t_3, n_p1] w (Ret fun t_4 w =>
  pvv prog (Instr.extract t_4 0) w fun t_5 w =>
  pvv prog (Instr.extract t_4 1) w fun t_6 w =>
  Calls prog 58 #[t_5] w (Ret fun t_7 w =>
  pvv prog (binOp .lss 3 t_7 (.int .i64 1)) w fun t_8 w =>
  gate (some (t_8, false)) (fun K => K t_7 w) w fun t_9 w =>
  gate (some (t_8, false)) (fun K => pvv prog (binOp .gtr 3 t_9 (.int .i64 100)) w K) w fun t_10 w =>
  pv prog (oPick t_8 (.bool true) t_10) w fun t_11 w =>
  gate (some (t_11, false)) (fun K => K n_p1 w) w fun t_12 w =>
  gate (some (t_11, false)) (fun K => K t_7 w) w fun t_13 w =>
  gate (some (t_11, false)) (fun K => pvv prog (binOp .add 3 t_12 t_13) w K) w fun t_14 w =>
  gate (some (t_11, false)) (fun K => K l_p0 w) w fun t_15 w =>
  gate (some (t_11, false)) (fun K => pv prog (oNil t_15) w K) w fun t_16 w =>
  gate (some (t_11, false)) (fun K => pvv prog (Instr.fieldAt 97 t_16 3) w K) w fun t_17 w =>
  gate (some (t_11, false)) (fun K => ldv prog (Instr.loadAt 3 t_17) w K) w fun t_18 w =>
  gate (some (t_11, false)) (fun K => pvv prog (binOp .gtr 3 t_14 t_18) w K) w fun t_19 w =>
  pv prog (oPick t_11 (.bool true) t_19) w fun t_20 w =>
  gate (some (t_20, false)) (fun K => K t_5 w) w fun t_21 w =>
  gate (some (t_20, false)) (fun K => K t_7 w) w fun t_22 w =>
  gate (some (t_20, false)) (fun K => pvv prog (binOp .mul 3 (.int .i64 2) t_22) w K) w fun t_23 w =>
  gate (some (t_20, false)) (fun K => pvv prog (binOp .add 3 (.int .i64 2) t_23) w K) w fun t_24 w =>
  gate (some (t_20, false)) (fun K => pvv prog (Instr.sliceAt 30 t_21 (some t_24) none none) w K) w fun t_25 w =>
  gate (some (t_20, false)) (fun K => Calls prog 56 #[t_25] w (Ret K)) w fun t_26 w =>
  gate (some (t_20, false)) (fun K => pvv prog (Op.unary .not t_26) w K) w fun t_27 w =>
  pv prog (oPick t_20 (.bool true) t_27) w fun t_28 w =>
  cd t_28 (
    K (.int .i64 0) w) <|
  lp (fun σ w again_31 => pop σ fun last_29 σ => pop σ fun t_30 σ => fin σ <|
    pvv prog (binOp .lss 3 t_30 t_7) w fun t_32 w =>
    cd t_32 (
      pvv prog (binOp .mul 3 (.int .i64 2) t_30) w fun t_33 w =>
      pvv prog (binOp .add 3 (.int .i64 2) t_33) w fun t_34 w =>
      pvv prog (Instr.sliceAt 30 t_5 (some t_34) none none) w fun t_35 w =>
      Calls prog 58 #[t_35] w (Ret fun t_36 w =>
      pvv prog (binOp .leq 3 t_36 last_29) w fun t_37 w =>
      gate (some (t_37, false)) (fun K => K t_36 w) w fun t_38 w =>
      gate (some (t_37, false)) (fun K => K l_p0 w) w fun t_39 w =>
      gate (some (t_37, false)) (fun K => Calls prog 41 #[t_39] w (Ret K)) w fun t_40 w =>
      gate (some (t_37, false)) (fun K => pvv prog (binOp .geq 3 t_38 t_40) w K) w fun t_41 w =>
      pv prog (oPick t_37 (.bool true) t_41) w fun t_42 w =>
      cd t_42 (
        K (.int .i64 0) w) <|
      pv prog (oNil l_p0) w fun t_43 w =>
      pvv prog (Instr.fieldAt 97 t_43 4) w fun t_44 w =>
      ldv prog (Instr.loadAt 95 t_44) w fun t_45 w =>
      pvv prog (binOp .add 3 n_p1 (.int .i64 1)) w fun t_46 w =>
      pvv prog (binOp .add 3 t_46 t_30) w fun t_47 w =>
      efu prog (Instr.mapUpdate 95 t_45 t_36 t_47) w fun u_48 w =>
      pvv prog (binOp .add 3 t_30 (.int .i64 1)) w fun t_49 w =>
      again_31 [t_36, t_49] w)) <|
    K t_7 w) [(.int .i64 (-1)), (.int .i64 0)] w))
theorem B59_eq (l_p0 n_p1 : Value) (w : World) (K : Value → World → Prop) : denFn prog Tryz.f59 T59 [l_p0, n_p1] w K = B59 l_p0 n_p1 w K := by kernel_rfl
theorem c59 {l_p0 n_p1 : Value} {w : World} {K : Value → World → Prop} (h : B59 l_p0 n_p1 w K) : Calls prog 59 #[l_p0, n_p1] w (Ret K) :=
  denFn_calls Tryz.func59 T59_ok (Eq.mpr (B59_eq l_p0 n_p1 w K) h)

-- 77 (*holdfast/block.Disk).Write
def T77 : Ann := (.seq .none (.seq (.block (.seq .none (.seq (.seq .none .none) (.seq .none (.seq (.seq .none .none) (.seq .none (.seq (.seq .none .none) .none))))))) (.seq (.draw [.op 0 .pure, .op 1 .pure, .op 2 .pure, .op 3 .pure, .op 5 .pure, .op 6 .pure, .op 7 .pure, .op 8 .pure, .op 10 .pure, .op 4 .load, .op 9 .load, .op 11 .pure, .op 12 .load, .op 13 .pure, .op 14 .eff, .op 15 .eff, .op 16 .pure, .op 17 .pure, .op 18 .eff]) (.seq .none (.seq (.draw [.op 0 .pure, .op 1 .pure, .op 2 .pure, .op 4 .pure, .op 5 .pure, .op 3 .load, .op 6 .eff, .op 7 .pure, .op 8 .eff]) (.seq .none .none))))))
theorem T77_ok : chkFn prog Tryz.f77 T77 = true := by kernel_rfl
def B77 (d_p0 n_p1 b_p2 : Value) (w : World) (K : Value → World → Prop) : Prop :=
  pvv prog (oEq .eql 48 (.tmp 8) (.const (.pointer none)) d_p0 (.pointer none)) w fun t_0 w =>
  cd t_0 (
    K (.int .i64 1) w) <|
  pvv prog (binOp .lss 3 n_p1 (.int .i64 0)) w fun t_1 w =>
  gate (some (t_1, false)) (fun K => K n_p1 w) w fun t_2 w =>
  gate (some (t_1, false)) (fun K => K d_p0 w) w fun t_3 w =>
  gate (some (t_1, false)) (fun K => pv prog (oNil t_3) w K) w fun t_4 w =>
  gate (some (t_1, false)) (fun K => pvv prog (Instr.fieldAt 101 t_4 0) w K) w fun t_5 w =>
  gate (some (t_1, false)) (fun K => ldv prog (Instr.loadAt 40 t_5) w K) w fun t_6 w =>
  gate (some (t_1, false)) (fun K => pv prog (oBi .len #[40] 3 #[false] #[t_6]) w K) w fun t_7 w =>
  gate (some (t_1, false)) (fun K => pvv prog (binOp .geq 3 t_2 t_7) w K) w fun t_8 w =>
  pv prog (oPick t_1 (.bool true) t_8) w fun t_9 w =>
  cd t_9 (
    K (.int .i64 2) w) <|
  pv prog (oBi .len #[30] 3 #[false] #[b_p2]) w fun t_10 w =>
  pvv prog (oEq .neq 3 (.tmp 24) (.const (.int .i64 256)) t_10 (.int .i64 256)) w fun t_11 w =>
  cd t_11 (
    K (.int .i64 3) w) <|
  dr w fun w =>
  pv prog (oNil d_p0) w fun t_12 w =>
  pvv prog (Instr.fieldAt 101 t_12 1) w fun t_13 w =>
  pv prog (oNil d_p0) w fun t_14 w =>
  pvv prog (Instr.fieldAt 101 t_14 0) w fun t_15 w =>
  bindS (vN (Instr.loadAt 99 t_13)) fun m_17 => ldv prog (Instr.loadAt 99 t_13) w fun t_16 w =>
  bindS (vN (Instr.loadAt 40 t_15)) fun m_19 => ldv prog (Instr.loadAt 40 t_15) w fun t_18 w =>
  pvv prog (Instr.indexAt 40 t_18 n_p1) w fun t_20 w =>
  bindS (vN (Instr.loadAt 30 t_20)) fun m_22 => ldv prog (Instr.loadAt 30 t_20) w fun t_21 w =>
  pvv prog (Instr.build 108 #[(0, n_p1), (1, t_21)]) w fun t_23 w =>
  efv prog (Instr.buildSlice 99 1 #[(0, t_23)]) w fun t_24 w => stay prog none m_22 t_21 w <| stay prog none m_19 t_18 w <| stay prog none m_17 t_16 w <| 
  ef prog (oBi .append #[99, 99] 99 #[false, false] #[t_16, t_24]) w fun t_25 w => stay prog none m_22 t_21 w <| stay prog none m_19 t_18 w <| 
  pv prog (oNil d_p0) w fun t_26 w =>
  pvv prog (Instr.fieldAt 101 t_26 1) w fun t_27 w =>
  efu prog (Instr.storeAt 99 t_27 t_25) w fun u_28 w =>
  pv prog (oNil d_p0) w fun t_29 w =>
  pvv prog (Instr.fieldAt 101 t_29 2) w fun t_30 w =>
  Calls prog 69 #[t_30, (.int .i64 1)] w (Ret fun t_31 w =>
  dr w fun w =>
  pv prog (oNil d_p0) w fun t_32 w =>
  pvv prog (Instr.fieldAt 101 t_32 0) w fun t_33 w =>
  bindS (vN (Instr.loadAt 40 t_33)) fun m_35 => ldv prog (Instr.loadAt 40 t_33) w fun t_34 w =>
  Calls prog 38 #[b_p2] w (Ret fun t_36 w => stay prog none m_35 t_34 w <| 
  pvv prog (Instr.indexAt 40 t_34 n_p1) w fun t_37 w =>
  efu prog (Instr.storeAt 30 t_37 t_36) w fun u_38 w =>
  K (.int .i64 0) w))
theorem B77_eq (d_p0 n_p1 b_p2 : Value) (w : World) (K : Value → World → Prop) : denFn prog Tryz.f77 T77 [d_p0, n_p1, b_p2] w K = B77 d_p0 n_p1 b_p2 w K := by kernel_rfl
theorem c77 {d_p0 n_p1 b_p2 : Value} {w : World} {K : Value → World → Prop} (h : B77 d_p0 n_p1 b_p2 w K) : Calls prog 77 #[d_p0, n_p1, b_p2] w (Ret K) :=
  denFn_calls Tryz.func77 T77_ok (Eq.mpr (B77_eq d_p0 n_p1 b_p2 w K) h)

-- 12 (*holdfast/pager.Pager).Write
def T12 : Ann := (.seq .none (.seq (.seq .none (.seq .none (.seq (.seq .none .none) .none))) (.seq .none (.seq (.block (.seq .none (.seq (.seq .none .none) (.seq .none (.seq (.seq .none .none) .none))))) (.seq (.draw [.op 0 .pure, .op 1 .pure, .op 2 .pure, .op 4 .pure, .op 5 .pure, .op 3 .load, .op 6 .eff, .op 7 .eff]) (.seq .none (.seq .none (.seq .none .none))))))))
theorem T12_ok : chkFn prog Tryz.f12 T12 = true := by kernel_rfl
def B12 (p_p0 n_p1 b_p2 : Value) (w : World) (K : Value → World → Prop) : Prop :=
  Calls prog 37 #[p_p0, n_p1] w (Ret fun t_0 w =>
  pvv prog (oEq .neq 32 (.tmp 13) (.const (.int .i64 0)) t_0 (.int .i64 0)) w fun t_1 w =>
  cd t_1 (
    K t_0 w) <|
  pv prog (oNil p_p0) w fun t_2 w =>
  pvv prog (Instr.fieldAt 80 t_2 2) w fun t_3 w =>
  ldv prog (Instr.loadAt 72 t_3) w fun t_4 w =>
  ldv prog (Instr.lookup 72 t_4 n_p1 true) w fun t_5 w =>
  pvv prog (Instr.extract t_5 0) w fun t_6 w =>
  pvv prog (Instr.extract t_5 1) w fun t_7 w =>
  pv prog (oBi .len #[30] 3 #[false] #[b_p2]) w fun t_8 w =>
  pvv prog (oEq .neq 3 (.tmp 27) (.const (.int .i64 256)) t_8 (.int .i64 256)) w fun t_9 w =>
  cd t_9 (
    K (.int .i64 3) w) <|
  pvv prog (Op.unary .not t_7) w fun t_10 w =>
  gate (some (t_10, true)) (fun K => K p_p0 w) w fun t_11 w =>
  gate (some (t_10, true)) (fun K => pv prog (oNil t_11) w K) w fun t_12 w =>
  gate (some (t_10, true)) (fun K => pvv prog (Instr.fieldAt 80 t_12 2) w K) w fun t_13 w =>
  gate (some (t_10, true)) (fun K => ldv prog (Instr.loadAt 72 t_13) w K) w fun t_14 w =>
  gate (some (t_10, true)) (fun K => ld prog (oBi .len #[72] 3 #[false] #[t_14]) w K) w fun t_15 w =>
  gate (some (t_10, true)) (fun K => pvv prog (binOp .geq 3 t_15 (.int .i64 100)) w K) w fun t_16 w =>
  pv prog (oPick t_10 t_16 (.bool false)) w fun t_17 w =>
  cd t_17 (
    K (.int .i64 6) w) <|
  dr w fun w =>
  pv prog (oNil p_p0) w fun t_18 w =>
  pvv prog (Instr.fieldAt 80 t_18 2) w fun t_19 w =>
  bindS (vN (Instr.loadAt 72 t_19)) fun m_21 => ldv prog (Instr.loadAt 72 t_19) w fun t_20 w =>
  Calls prog 38 #[b_p2] w (Ret fun t_22 w => stay prog none m_21 t_20 w <| 
  efu prog (Instr.mapUpdate 72 t_20 n_p1 t_22) w fun u_23 w =>
  Calls prog 39 #[p_p0, n_p1] w (Ret fun t_24 w =>
  pv prog (oNil p_p0) w fun t_25 w =>
  pvv prog (Instr.fieldAt 80 t_25 5) w fun t_26 w =>
  ldv prog (Instr.loadAt 73 t_26) w fun t_27 w =>
  ef prog (oBi .delete #[73, 3] 0 #[false, false] #[t_27, n_p1]) w fun u_28 w =>
  K (.int .i64 0) w)))
theorem B12_eq (p_p0 n_p1 b_p2 : Value) (w : World) (K : Value → World → Prop) : denFn prog Tryz.f12 T12 [p_p0, n_p1, b_p2] w K = B12 p_p0 n_p1 b_p2 w K := by kernel_rfl
theorem c12 {p_p0 n_p1 b_p2 : Value} {w : World} {K : Value → World → Prop} (h : B12 p_p0 n_p1 b_p2 w K) : Calls prog 12 #[p_p0, n_p1, b_p2] w (Ret K) :=
  denFn_calls Tryz.func12 T12_ok (Eq.mpr (B12_eq p_p0 n_p1 b_p2 w K) h)

-- 118 math/bits.Len64
def T118 : Ann := (.seq .none (.meet 125 [0, 2] (.seq .none (.seq (.seq .none .none) .none)) (.meet 8069 [0, 2] (.seq .none (.seq (.seq .none .none) .none)) (.meet 516101 [0, 2] (.seq .none (.seq (.seq .none .none) .none)) (.seq .none .none)))))
theorem T118_ok : chkFn prog Tryz.f118 T118 = true := by kernel_rfl
def B118 (x_p0 : Value) (w : World) (K : Value → World → Prop) : Prop :=
  jn (fun σ w => pop σ fun x_0 σ => pop σ fun n_1 σ => fin σ <|
    jn (fun σ w => pop σ fun x_2 σ => pop σ fun n_3 σ => fin σ <|
      jn (fun σ w => pop σ fun x_4 σ => pop σ fun n_5 σ => fin σ <|
        pvv prog (convert 167 5 x_4) w fun t_6 w =>
        pvv prog (Instr.index 9 (.string ⟨#[0, 1, 2, 2, 3, 3, 3, 3, 4, 4, 4, 4, 4, 4, 4, 4, 5, 5, 5, 5, 5, 5, 5, 5, 5, 5, 5, 5, 5, 5, 5, 5, 6, 6, 6, 6, 6, 6, 6, 6, 6, 6, 6, 6, 6, 6, 6, 6, 6, 6, 6, 6, 6, 6, 6, 6, 6, 6, 6, 6, 6, 6, 6, 6, 7, 7, 7, 7, 7, 7, 7, 7, 7, 7, 7, 7, 7, 7, 7, 7, 7, 7, 7, 7, 7, 7, 7, 7, 7, 7, 7, 7, 7, 7, 7, 7, 7, 7, 7, 7, 7, 7, 7, 7, 7, 7, 7, 7, 7, 7, 7, 7, 7, 7, 7, 7, 7, 7, 7, 7, 7, 7, 7, 7, 7, 7, 7, 7, 8, 8, 8, 8, 8, 8, 8, 8, 8, 8, 8, 8, 8, 8, 8, 8, 8, 8, 8, 8, 8, 8, 8, 8, 8, 8, 8, 8, 8, 8, 8, 8, 8, 8, 8, 8, 8, 8, 8, 8, 8, 8, 8, 8, 8, 8, 8, 8, 8, 8, 8, 8, 8, 8, 8, 8, 8, 8, 8, 8, 8, 8, 8, 8, 8, 8, 8, 8, 8, 8, 8, 8, 8, 8, 8, 8, 8, 8, 8, 8, 8, 8, 8, 8, 8, 8, 8, 8, 8, 8, 8, 8, 8, 8, 8, 8, 8, 8, 8, 8, 8, 8, 8, 8, 8, 8, 8, 8, 8, 8, 8, 8, 8, 8, 8, 8, 8, 8, 8, 8, 8, 8, 8, 8, 8, 8, 8, 8]⟩) t_6) w fun t_7 w =>
        pvv prog (convert 5 3 t_7) w fun t_8 w =>
        pvv prog (binOp .add 3 n_5 t_8) w fun t_9 w =>
        K t_9 w) fun k_10 =>
      pvv prog (binOp .geq 167 x_2 (.int .u64 256)) w fun t_11 w =>
      cd t_11 (
        pvv prog (binOp .shr 167 x_2 (.int .u64 8)) w fun t_12 w =>
        pvv prog (binOp .add 3 n_3 (.int .i64 8)) w fun t_13 w =>
        k_10 [t_12, t_13] w) <|
      k_10 [x_2, n_3] w) fun k_14 =>
    pvv prog (binOp .geq 167 x_0 (.int .u64 65536)) w fun t_15 w =>
    cd t_15 (
      pvv prog (binOp .shr 167 x_0 (.int .u64 16)) w fun t_16 w =>
      pvv prog (binOp .add 3 n_1 (.int .i64 16)) w fun t_17 w =>
      k_14 [t_16, t_17] w) <|
    k_14 [x_0, n_1] w) fun k_18 =>
  pvv prog (binOp .geq 167 x_p0 (.int .u64 4294967296)) w fun t_19 w =>
  cd t_19 (
    pvv prog (binOp .shr 167 x_p0 (.int .u64 32)) w fun t_20 w =>
    k_18 [t_20, (.int .i64 32)] w) <|
  k_18 [x_p0, (.int .i64 0)] w
theorem B118_eq (x_p0 : Value) (w : World) (K : Value → World → Prop) : denFn prog Tryz.f118 T118 [x_p0] w K = B118 x_p0 w K := by kernel_rfl
theorem c118 {x_p0 : Value} {w : World} {K : Value → World → Prop} (h : B118 x_p0 w K) : Calls prog 118 #[x_p0] w (Ret K) :=
  denFn_calls Tryz.func118 T118_ok (Eq.mpr (B118_eq x_p0 w K) h)

-- 94 (*holdfast/holdfastref01.Disk).at
def T94 : Ann := (.seq .none (.seq .none (.seq (.seq .none (.block (.loop 68719472704 [6] (.seq (.seq .none (.seq .none .none)) (.seq (.block (.draw [.op 0 .pure, .op 1 .pure, .op 2 .pure, .op 3 .pure, .op 5 .pure, .op 9 .pure, .op 10 .pure, .op 11 .pure, .op 13 .pure, .op 4 .load, .op 6 .pure, .op 7 .pure, .op 8 .load, .op 12 .load, .op 14 .pure, .op 15 .pure, .op 16 .load, .op 17 .eff, .op 18 .pure, .op 19 .eff])) .none))))) (.seq .none .none))))
theorem T94_ok : chkFn prog Tryz.f94 T94 = true := by kernel_rfl
def B94 (d_p0 k_p1 : Value) (w : World) (K : Value → World → Prop) : Prop :=
  pv prog (oNil d_p0) w fun t_0 w =>
  pvv prog (Instr.fieldAt 115 t_0 0) w fun t_1 w =>
  ldv prog (Instr.loadAt 40 t_1) w fun t_2 w =>
  Calls prog 93 #[t_2] w (Ret fun t_3 w =>
  lp (fun σ w again_5 => pop σ fun i_4 σ => fin σ <|
    pvv prog (binOp .lss 3 i_4 k_p1) w fun t_6 w =>
    cd t_6 (
      dr w fun w =>
      pv prog (oNil d_p0) w fun t_7 w =>
      pvv prog (Instr.fieldAt 115 t_7 1) w fun t_8 w =>
      pv prog (oNil d_p0) w fun t_9 w =>
      pvv prog (Instr.fieldAt 115 t_9 1) w fun t_10 w =>
      bindS (vN (Instr.loadAt 113 t_8)) fun m_12 => ldv prog (Instr.loadAt 113 t_8) w fun t_11 w =>
      pvv prog (Instr.indexAt 113 t_11 i_4) w fun t_13 w =>
      pvv prog (Instr.fieldAt 155 t_13 0) w fun t_14 w =>
      bindS (vN (Instr.loadAt 3 t_14)) fun m_16 => ldv prog (Instr.loadAt 3 t_14) w fun t_15 w =>
      bindS (vN (Instr.loadAt 113 t_10)) fun m_18 => ldv prog (Instr.loadAt 113 t_10) w fun t_17 w =>
      pvv prog (Instr.indexAt 113 t_17 i_4) w fun t_19 w =>
      pvv prog (Instr.fieldAt 155 t_19 1) w fun t_20 w =>
      bindS (vN (Instr.loadAt 30 t_20)) fun m_22 => ldv prog (Instr.loadAt 30 t_20) w fun t_21 w =>
      Calls prog 106 #[t_21] w (Ret fun t_23 w => stay prog none m_18 t_17 w <| stay prog none m_16 t_15 w <| stay prog none m_12 t_11 w <| 
      pvv prog (Instr.indexAt 40 t_3 t_15) w fun t_24 w =>
      efu prog (Instr.storeAt 30 t_24 t_23) w fun u_25 w =>
      pvv prog (binOp .add 3 i_4 (.int .i64 1)) w fun t_26 w =>
      again_5 [t_26] w)) <|
    K t_3 w) [(.int .i64 0)] w)
theorem B94_eq (d_p0 k_p1 : Value) (w : World) (K : Value → World → Prop) : denFn prog Tryz.f94 T94 [d_p0, k_p1] w K = B94 d_p0 k_p1 w K := by kernel_rfl
theorem c94 {d_p0 k_p1 : Value} {w : World} {K : Value → World → Prop} (h : B94 d_p0 k_p1 w K) : Calls prog 94 #[d_p0, k_p1] w (Ret K) :=
  denFn_calls Tryz.func94 T94_ok (Eq.mpr (B94_eq d_p0 k_p1 w K) h)

-- 61 holdfast/holdfastref01.Load
def T61 : Ann := (.seq .none (.seq (.seq .none (.seq (.seq .none .none) .none)) (.seq (.seq .none (.block (.loop 33546268 [4] (.seq (.seq .none (.seq .none .none)) (.seq (.block (.seq .none (.seq (.seq .none .none) .none))) .none))))) (.seq .none .none))))
theorem T61_ok : chkFn prog Tryz.f61 T61 = true := by kernel_rfl
def B61 (image_p0 : Value) (w : World) (K : Value → World → Prop) : Prop :=
  pv prog (oBi .len #[40] 3 #[false] #[image_p0]) w fun t_0 w =>
  pvv prog (binOp .lss 3 t_0 (.int .i64 1)) w fun t_1 w =>
  gate (some (t_1, false)) (fun K => K image_p0 w) w fun t_2 w =>
  gate (some (t_1, false)) (fun K => pv prog (oBi .len #[40] 3 #[false] #[t_2]) w K) w fun t_3 w =>
  gate (some (t_1, false)) (fun K => pvv prog (binOp .gtr 3 t_3 (.int .i64 1024)) w K) w fun t_4 w =>
  pv prog (oPick t_1 (.bool true) t_4) w fun t_5 w =>
  cd t_5 (
    K (.tuple #[(.pointer none), (.int .i64 2)]) w) <|
  lp (fun σ w again_7 => pop σ fun i_6 σ => fin σ <|
    pv prog (oBi .len #[40] 3 #[false] #[image_p0]) w fun t_8 w =>
    pvv prog (binOp .lss 3 i_6 t_8) w fun t_9 w =>
    cd t_9 (
      pvv prog (Instr.indexAt 40 image_p0 i_6) w fun t_10 w =>
      ldv prog (Instr.loadAt 30 t_10) w fun t_11 w =>
      pv prog (oBi .len #[30] 3 #[false] #[t_11]) w fun t_12 w =>
      pvv prog (oEq .neq 3 (.tmp 23) (.const (.int .i64 256)) t_12 (.int .i64 256)) w fun t_13 w =>
      cd t_13 (
        K (.tuple #[(.pointer none), (.int .i64 3)]) w) <|
      pvv prog (binOp .add 3 i_6 (.int .i64 1)) w fun t_14 w =>
      again_7 [t_14] w) <|
    Calls prog 93 #[image_p0] w (Ret fun t_15 w =>
    pvv prog (Instr.build 115 #[(0, t_15)]) w fun t_16 w =>
    efv prog (Instr.box 115 t_16) w fun t_17 w =>
    K (.tuple #[t_17, (.int .i64 0)]) w)) [(.int .i64 0)] w
theorem B61_eq (image_p0 : Value) (w : World) (K : Value → World → Prop) : denFn prog Tryz.f61 T61 [image_p0] w K = B61 image_p0 w K := by kernel_rfl
theorem c61 {image_p0 : Value} {w : World} {K : Value → World → Prop} (h : B61 image_p0 w K) : Calls prog 61 #[image_p0] w (Ret K) :=
  denFn_calls Tryz.func61 T61_ok (Eq.mpr (B61_eq image_p0 w K) h)

-- 42 (*holdfast/wal.Log).Read
def T42 : Ann := (.seq .none (.seq (.block (.seq .none (.seq (.seq .none .none) (.seq .none (.seq (.seq .none .none) .none))))) (.seq (.draw [.op 0 .pure, .op 1 .pure, .op 2 .pure, .op 3 .pure, .op 5 .pure, .op 6 .pure, .op 4 .load, .op 7 .eff, .op 8 .eff, .op 9 .pure, .op 10 .pure, .op 11 .pure, .op 12 .pure]) .none)))
theorem T42_ok : chkFn prog Tryz.f42 T42 = true := by kernel_rfl
def B42 (l_p0 n_p1 : Value) (w : World) (K : Value → World → Prop) : Prop :=
  pvv prog (oEq .eql 42 (.tmp 7) (.const (.pointer none)) l_p0 (.pointer none)) w fun t_0 w =>
  cd t_0 (
    K (.tuple #[(.slice none 0 0), (.int .i64 1)]) w) <|
  pvv prog (binOp .lss 3 n_p1 (.int .i64 0)) w fun t_1 w =>
  gate (some (t_1, false)) (fun K => K n_p1 w) w fun t_2 w =>
  gate (some (t_1, false)) (fun K => K l_p0 w) w fun t_3 w =>
  gate (some (t_1, false)) (fun K => Calls prog 41 #[t_3] w (Ret K)) w fun t_4 w =>
  gate (some (t_1, false)) (fun K => pvv prog (binOp .geq 3 t_2 t_4) w K) w fun t_5 w =>
  pv prog (oPick t_1 (.bool true) t_5) w fun t_6 w =>
  cd t_6 (
    K (.tuple #[(.slice none 0 0), (.int .i64 2)]) w) <|
  dr w fun w =>
  pv prog (oNil l_p0) w fun t_7 w =>
  pvv prog (Instr.fieldAt 97 t_7 0) w fun t_8 w =>
  pvv prog (Instr.fieldAt 94 t_8 0) w fun t_9 w =>
  bindS (vN (Instr.loadAt 48 t_9)) fun m_11 => ldv prog (Instr.loadAt 48 t_9) w fun t_10 w =>
  Calls prog 72 #[l_p0, n_p1] w (Ret fun t_12 w => stay prog none m_11 t_10 w <| 
  Calls prog 55 #[t_10, t_12] w (Ret fun t_13 w =>
  pvv prog (Instr.extract t_13 0) w fun t_14 w =>
  pvv prog (Instr.extract t_13 1) w fun t_15 w =>
  K (.tuple #[t_14, t_15]) w))
theorem B42_eq (l_p0 n_p1 : Value) (w : World) (K : Value → World → Prop) : denFn prog Tryz.f42 T42 [l_p0, n_p1] w K = B42 l_p0 n_p1 w K := by kernel_rfl
theorem c42 {l_p0 n_p1 : Value} {w : World} {K : Value → World → Prop} (h : B42 l_p0 n_p1 w K) : Calls prog 42 #[l_p0, n_p1] w (Ret K) :=
  denFn_calls Tryz.func42 T42_ok (Eq.mpr (B42_eq l_p0 n_p1 w K) h)

-- 74 (*holdfast/wal.Log).Commit$1
def T74 : Ann := (.seq .none (.seq (.draw [.op 0 .pure, .op 1 .load, .op 2 .pure, .op 3 .pure, .op 4 .pure, .op 5 .load, .op 6 .load, .op 7 .eff, .op 8 .pure, .op 9 .pure, .op 10 .pure]) .none))
theorem T74_ok : chkFn prog Tryz.f74 T74 = true := by kernel_rfl
def B74 (p_p0 x_p1 : Value) (w : World) (K : Value → World → Prop) : Prop :=
  efv prog (Instr.box 86 p_p0) w fun p_0 w =>
  dr w fun w =>
  pvv prog (Instr.fieldAt 86 p_0 0) w fun t_1 w =>
  bindS (vN (Instr.loadAt 3 t_1)) fun m_3 => ldv prog (Instr.loadAt 3 t_1) w fun t_2 w =>
  pvv prog (binOp .lss 3 t_2 (.int .i64 0)) w fun t_4 w =>
  gate (some (t_4, false)) (fun K => pvv prog (Instr.fieldAt 86 p_0 0) w K) w fun t_5 w =>
  bindS (vN (Instr.loadAt 3 t_5)) fun m_7 => gate (some (t_4, false)) (fun K => ldv prog (Instr.loadAt 3 t_5) w K) w fun t_6 w =>
  bindS (vN (Instr.loadAt 42 x_p1)) fun m_9 => gate (some (t_4, false)) (fun K => ldv prog (Instr.loadAt 42 x_p1) w K) w fun t_8 w =>
  gate (some (t_4, false)) (fun K => Calls prog 41 #[t_8] w (Ret fun s_13 w => stay prog (some (t_4, false)) m_7 t_6 w <| stay prog none m_3 t_2 w <| K s_13 w)) w fun t_10 w =>
  gate (some (t_4, false)) (fun K => pvv prog (binOp .geq 3 t_6 t_10) w K) w fun t_11 w =>
  pv prog (oPick t_4 (.bool true) t_11) w fun t_12 w =>
  K t_12 w
theorem B74_eq (p_p0 x_p1 : Value) (w : World) (K : Value → World → Prop) : denFn prog Tryz.f74 T74 [p_p0, x_p1] w K = B74 p_p0 x_p1 w K := by kernel_rfl
theorem c74 {p_p0 x_p1 : Value} {w : World} {K : Value → World → Prop} (h : B74 p_p0 x_p1 w K) : Calls prog 74 #[p_p0, x_p1] w (Ret K) :=
  denFn_calls Tryz.func74 T74_ok (Eq.mpr (B74_eq p_p0 x_p1 w K) h)

-- 16 holdfast/holdfastlaw04.all
def T16 : Ann := (.seq .none (.seq .none (.seq (.seq .none (.block (.loop 134217720 [3, 4] (.seq (.seq .none (.seq .none .none)) (.seq (.block (.seq .none .none)) .none))))) (.seq .none .none))))
theorem T16_ok : chkFn prog Tryz.f16 T16 = true := by kernel_rfl
def B16 (l_p0 : Value) (w : World) (K : Value → World → Prop) : Prop :=
  lp (fun σ w again_2 => pop σ fun out_0 σ => pop σ fun n_1 σ => fin σ <|
    Calls prog 41 #[l_p0] w (Ret fun t_3 w =>
    pvv prog (binOp .lss 3 n_1 t_3) w fun t_4 w =>
    gate (some (t_4, true)) (fun K => K n_1 w) w fun t_5 w =>
    gate (some (t_4, true)) (fun K => pvv prog (binOp .lss 3 t_5 (.int .i64 100)) w K) w fun t_6 w =>
    pv prog (oPick t_4 t_6 (.bool false)) w fun t_7 w =>
    cd t_7 (
      Calls prog 42 #[l_p0, n_1] w (Ret fun t_8 w =>
      pvv prog (Instr.extract t_8 0) w fun t_9 w =>
      pvv prog (Instr.extract t_8 1) w fun t_10 w =>
      efv prog (Instr.buildSlice 40 1 #[(0, t_9)]) w fun t_11 w =>
      ef prog (oBi .append #[40, 40] 40 #[false, false] #[out_0, t_11]) w fun t_12 w =>
      pvv prog (binOp .add 3 n_1 (.int .i64 1)) w fun t_13 w =>
      again_2 [t_12, t_13] w)) <|
    K out_0 w)) [(.slice none 0 0), (.int .i64 0)] w
theorem B16_eq (l_p0 : Value) (w : World) (K : Value → World → Prop) : denFn prog Tryz.f16 T16 [l_p0] w K = B16 l_p0 w K := by kernel_rfl
theorem c16 {l_p0 : Value} {w : World} {K : Value → World → Prop} (h : B16 l_p0 w K) : Calls prog 16 #[l_p0] w (Ret K) :=
  denFn_calls Tryz.func16 T16_ok (Eq.mpr (B16_eq l_p0 w K) h)

-- 41 (*holdfast/wal.Log).Pages
def T41 : Ann := (.seq .none (.seq (.seq .none (.seq (.seq .none .none) .none)) (.seq (.draw [.op 0 .pure, .op 1 .pure, .op 2 .pure, .op 3 .pure, .op 6 .pure, .op 7 .pure, .op 8 .pure, .op 4 .load, .op 9 .load, .op 5 .eff, .op 10 .pure, .op 11 .pure, .op 12 .pure]) .none)))
theorem T41_ok : chkFn prog Tryz.f41 T41 = true := by kernel_rfl
def B41 (l_p0 : Value) (w : World) (K : Value → World → Prop) : Prop :=
  pvv prog (oEq .eql 42 (.tmp 3) (.const (.pointer none)) l_p0 (.pointer none)) w fun t_0 w =>
  cd t_0 (
    K (.int .i64 0) w) <|
  dr w fun w =>
  pv prog (oNil l_p0) w fun t_1 w =>
  pvv prog (Instr.fieldAt 97 t_1 0) w fun t_2 w =>
  pvv prog (Instr.fieldAt 94 t_2 0) w fun t_3 w =>
  pv prog (oNil l_p0) w fun t_4 w =>
  pvv prog (Instr.fieldAt 97 t_4 1) w fun t_5 w =>
  bindS (vN (Instr.loadAt 48 t_3)) fun m_7 => ldv prog (Instr.loadAt 48 t_3) w fun t_6 w =>
  bindS (vN (Instr.loadAt 3 t_5)) fun m_9 => ldv prog (Instr.loadAt 3 t_5) w fun t_8 w =>
  Calls prog 53 #[t_6] w (Ret fun t_10 w => stay prog none m_9 t_8 w <| 
  pvv prog (binOp .sub 3 t_10 t_8) w fun t_11 w =>
  pvv prog (binOp .sub 3 t_11 (.int .i64 1)) w fun t_12 w =>
  K t_12 w)
theorem B41_eq (l_p0 : Value) (w : World) (K : Value → World → Prop) : denFn prog Tryz.f41 T41 [l_p0] w K = B41 l_p0 w K := by kernel_rfl
theorem c41 {l_p0 : Value} {w : World} {K : Value → World → Prop} (h : B41 l_p0 w K) : Calls prog 41 #[l_p0] w (Ret K) :=
  denFn_calls Tryz.func41 T41_ok (Eq.mpr (B41_eq l_p0 w K) h)

-- 96 (*holdfast/holdfastref03.Log).Pages
def T96 : Ann := (.seq .none (.seq (.seq .none (.seq (.seq .none .none) .none)) (.seq (.draw [.op 0 .pure, .op 1 .pure, .op 2 .pure, .op 5 .pure, .op 6 .pure, .op 7 .pure, .op 3 .load, .op 8 .load, .op 4 .eff, .op 9 .pure, .op 10 .pure, .op 11 .pure]) .none)))
theorem T96_ok : chkFn prog Tryz.f96 T96 = true := by kernel_rfl
def B96 (l_p0 : Value) (w : World) (K : Value → World → Prop) : Prop :=
  pvv prog (oEq .eql 65 (.tmp 3) (.const (.pointer none)) l_p0 (.pointer none)) w fun t_0 w =>
  cd t_0 (
    K (.int .i64 0) w) <|
  dr w fun w =>
  pv prog (oNil l_p0) w fun t_1 w =>
  pvv prog (Instr.fieldAt 118 t_1 0) w fun t_2 w =>
  pv prog (oNil l_p0) w fun t_3 w =>
  pvv prog (Instr.fieldAt 118 t_3 1) w fun t_4 w =>
  bindS (vN (Instr.loadAt 62 t_2)) fun m_6 => ldv prog (Instr.loadAt 62 t_2) w fun t_5 w =>
  bindS (vN (Instr.loadAt 3 t_4)) fun m_8 => ldv prog (Instr.loadAt 3 t_4) w fun t_7 w =>
  Calls prog 60 #[t_5] w (Ret fun t_9 w => stay prog none m_8 t_7 w <| 
  pvv prog (binOp .sub 3 t_9 t_7) w fun t_10 w =>
  pvv prog (binOp .sub 3 t_10 (.int .i64 1)) w fun t_11 w =>
  K t_11 w)
theorem B96_eq (l_p0 : Value) (w : World) (K : Value → World → Prop) : denFn prog Tryz.f96 T96 [l_p0] w K = B96 l_p0 w K := by kernel_rfl
theorem c96 {l_p0 : Value} {w : World} {K : Value → World → Prop} (h : B96 l_p0 w K) : Calls prog 96 #[l_p0] w (Ret K) :=
  denFn_calls Tryz.func96 T96_ok (Eq.mpr (B96_eq l_p0 w K) h)

-- 49 holdfast/block.copied
def T49 : Ann := (.seq .none (.seq .none (.seq (.seq .none (.block (.loop 4192304 [11] (.seq .none (.seq (.seq .none .none) (.seq (.block (.seq .none .none)) .none)))))) (.seq .none .none))))
theorem T49_ok : chkFn prog Tryz.f49 T49 = true := by kernel_rfl
def B49 (l_p0 : Value) (w : World) (K : Value → World → Prop) : Prop :=
  pv prog (oBi .len #[40] 3 #[false] #[l_p0]) w fun t_0 w =>
  efv prog (Instr.makeSlice 40 t_0 t_0) w fun t_1 w =>
  pv prog (oBi .len #[40] 3 #[false] #[l_p0]) w fun t_2 w =>
  lp (fun σ w again_4 => pop σ fun t_3 σ => fin σ <|
    pvv prog (binOp .lss 3 t_3 t_2) w fun t_5 w =>
    cd t_5 (
      pvv prog (Instr.indexAt 40 l_p0 t_3) w fun t_6 w =>
      ldv prog (Instr.loadAt 30 t_6) w fun t_7 w =>
      Calls prog 38 #[t_7] w (Ret fun t_8 w =>
      pvv prog (Instr.indexAt 40 t_1 t_3) w fun t_9 w =>
      efu prog (Instr.storeAt 30 t_9 t_8) w fun u_10 w =>
      pvv prog (binOp .add 3 t_3 (.int .i64 1)) w fun t_11 w =>
      again_4 [t_11] w)) <|
    K t_1 w) [(.int .i64 0)] w
theorem B49_eq (l_p0 : Value) (w : World) (K : Value → World → Prop) : denFn prog Tryz.f49 T49 [l_p0] w K = B49 l_p0 w K := by kernel_rfl
theorem c49 {l_p0 : Value} {w : World} {K : Value → World → Prop} (h : B49 l_p0 w K) : Calls prog 49 #[l_p0] w (Ret K) :=
  denFn_calls Tryz.func49 T49_ok (Eq.mpr (B49_eq l_p0 w K) h)

-- 64 holdfast/holdfastref03.zeros
def T64 : Ann := (.seq .none (.seq (.seq .none (.block (.loop 262064 [5] (.seq (.seq .none (.seq .none .none)) (.seq (.block (.seq .none (.seq (.seq .none .none) .none))) .none))))) (.seq .none .none)))
theorem T64_ok : chkFn prog Tryz.f64 T64 = true := by kernel_rfl
def B64 (b_p0 at_p1 : Value) (w : World) (K : Value → World → Prop) : Prop :=
  lp (fun σ w again_1 => pop σ fun i_0 σ => fin σ <|
    pv prog (oBi .len #[30] 3 #[false] #[b_p0]) w fun t_2 w =>
    pvv prog (binOp .lss 3 i_0 t_2) w fun t_3 w =>
    cd t_3 (
      pvv prog (Instr.indexAt 30 b_p0 i_0) w fun t_4 w =>
      ldv prog (Instr.loadAt 5 t_4) w fun t_5 w =>
      pvv prog (oEq .neq 5 (.tmp 16) (.const (.int .u8 0)) t_5 (.int .u8 0)) w fun t_6 w =>
      cd t_6 (
        K (.bool false) w) <|
      pvv prog (binOp .add 3 i_0 (.int .i64 1)) w fun t_7 w =>
      again_1 [t_7] w) <|
    K (.bool true) w) [at_p1] w
theorem B64_eq (b_p0 at_p1 : Value) (w : World) (K : Value → World → Prop) : denFn prog Tryz.f64 T64 [b_p0, at_p1] w K = B64 b_p0 at_p1 w K := by kernel_rfl
theorem c64 {b_p0 at_p1 : Value} {w : World} {K : Value → World → Prop} (h : B64 b_p0 at_p1 w K) : Calls prog 64 #[b_p0, at_p1] w (Ret K) :=
  denFn_calls Tryz.func64 T64_ok (Eq.mpr (B64_eq b_p0 at_p1 w K) h)

-- 104 slices.IndexFunc[[][]byte,[]byte]
def T104 : Ann := (.seq .none (.seq (.seq .none (.block (.loop 524080 [8] (.seq .none (.seq (.seq .none .none) (.seq (.block (.seq .none (.seq .none (.seq (.seq .none .none) .none)))) .none)))))) (.seq .none .none)))
theorem T104_ok : chkFn prog Tryz.f104 T104 = true := by kernel_rfl
def B104 (s_p0 f_p1 : Value) (w : World) (K : Value → World → Prop) : Prop :=
  pv prog (oBi .len #[40] 3 #[false] #[s_p0]) w fun t_0 w =>
  lp (fun σ w again_2 => pop σ fun t_1 σ => fin σ <|
    pvv prog (binOp .lss 3 t_1 t_0) w fun t_3 w =>
    cd t_3 (
      pvv prog (Instr.indexAt 40 s_p0 t_1) w fun t_4 w =>
      ldv prog (Instr.loadAt 30 t_4) w fun t_5 w =>
      ef prog (oCall f_p1 #[t_5]) w fun t_6 w =>
      cd t_6 (
        K t_1 w) <|
      pvv prog (binOp .add 3 t_1 (.int .i64 1)) w fun t_7 w =>
      again_2 [t_7] w) <|
    K (.int .i64 (-1)) w) [(.int .i64 0)] w
theorem B104_eq (s_p0 f_p1 : Value) (w : World) (K : Value → World → Prop) : denFn prog Tryz.f104 T104 [s_p0, f_p1] w K = B104 s_p0 f_p1 w K := by kernel_rfl
theorem c104 {s_p0 f_p1 : Value} {w : World} {K : Value → World → Prop} (h : B104 s_p0 f_p1 w K) : Calls prog 104 #[s_p0, f_p1] w (Ret K) :=
  denFn_calls Tryz.func104 T104_ok (Eq.mpr (B104_eq s_p0 f_p1 w K) h)

-- 100 slices.AppendSeq[[]int,int]
def T100 : Ann := (.seq .none (.seq (.seq .none (.block (.range .none (.block .none)))) (.seq .none .none)))
theorem T100_ok : chkFn prog Tryz.f100 T100 = true := by kernel_rfl
def B100 (s_p0 seq_p1 : Value) (w : World) (K : Value → World → Prop) : Prop :=
  efv prog (Instr.box 22 s_p0) w fun s_0 w =>
  rng prog 1 seq_p1 (fun σ w bg_2 ex_3 => pop σ fun t_1 σ => fin σ <|
    bg_2 w fun w =>
    ldv prog (Instr.loadAt 22 s_0) w fun t_4 w =>
    efv prog (Instr.buildSlice 22 1 #[(0, t_1)]) w fun t_5 w =>
    ef prog (oBi .append #[22, 22] 22 #[false, false] #[t_4, t_5]) w fun t_6 w =>
    efu prog (Instr.storeAt 22 s_0 t_6) w fun u_7 w =>
    ex_3 .normal w) w fun p_9 D_8 w =>
  jump (
    ldv prog (Instr.loadAt 22 s_0) w fun t_10 w =>
    und [D_8] w fun w => K t_10 w) (
    und [D_8] w fun w => K (.slice none 0 0) w) [] p_9
theorem B100_eq (s_p0 seq_p1 : Value) (w : World) (K : Value → World → Prop) : denFn prog Tryz.f100 T100 [s_p0, seq_p1] w K = B100 s_p0 seq_p1 w K := by kernel_rfl
theorem c100 {s_p0 seq_p1 : Value} {w : World} {K : Value → World → Prop} (h : B100 s_p0 seq_p1 w K) : Calls prog 100 #[s_p0, seq_p1] w (Ret K) :=
  denFn_calls Tryz.func100 T100_ok (Eq.mpr (B100_eq s_p0 seq_p1 w K) h)

-- 13 (holdfast/holdfastlaw04.Deed).first
def T13 : Ann := (.seq .none (.seq (.seq .none (.seq (.seq .none .none) .none)) (.seq .none .none)))
theorem T13_ok : chkFn prog Tryz.f13 T13 = true := by kernel_rfl
def B13 (d_p0 : Value) (w : World) (K : Value → World → Prop) : Prop :=
  efv prog (Instr.box 24 d_p0) w fun d_0 w =>
  pvv prog (Instr.fieldAt 24 d_0 1) w fun t_1 w =>
  ldv prog (Instr.loadAt 22 t_1) w fun t_2 w =>
  pv prog (oBi .len #[22] 3 #[false] #[t_2]) w fun t_3 w =>
  pvv prog (oEq .eql 3 (.tmp 5) (.const (.int .i64 0)) t_3 (.int .i64 0)) w fun t_4 w =>
  cd t_4 (
    K (.int .i64 0) w) <|
  pvv prog (Instr.fieldAt 24 d_0 1) w fun t_5 w =>
  ldv prog (Instr.loadAt 22 t_5) w fun t_6 w =>
  pvv prog (Instr.indexAt 22 t_6 (.int .i64 0)) w fun t_7 w =>
  ldv prog (Instr.loadAt 3 t_7) w fun t_8 w =>
  K t_8 w
theorem B13_eq (d_p0 : Value) (w : World) (K : Value → World → Prop) : denFn prog Tryz.f13 T13 [d_p0] w K = B13 d_p0 w K := by kernel_rfl
theorem c13 {d_p0 : Value} {w : World} {K : Value → World → Prop} (h : B13 d_p0 w K) : Calls prog 13 #[d_p0] w (Ret K) :=
  denFn_calls Tryz.func13 T13_ok (Eq.mpr (B13_eq d_p0 w K) h)

-- 23 (*holdfast/wal.Log).Disk
def T23 : Ann := (.seq .none (.seq (.seq .none (.seq (.seq .none .none) .none)) (.seq .none .none)))
theorem T23_ok : chkFn prog Tryz.f23 T23 = true := by kernel_rfl
def B23 (l_p0 : Value) (w : World) (K : Value → World → Prop) : Prop :=
  pvv prog (oEq .eql 42 (.tmp 3) (.const (.pointer none)) l_p0 (.pointer none)) w fun t_0 w =>
  cd t_0 (
    K (.pointer none) w) <|
  pv prog (oNil l_p0) w fun t_1 w =>
  pvv prog (Instr.fieldAt 97 t_1 0) w fun t_2 w =>
  pvv prog (Instr.fieldAt 94 t_2 0) w fun t_3 w =>
  ldv prog (Instr.loadAt 48 t_3) w fun t_4 w =>
  Calls prog 48 #[t_4] w (Ret fun t_5 w =>
  K t_5 w)
theorem B23_eq (l_p0 : Value) (w : World) (K : Value → World → Prop) : denFn prog Tryz.f23 T23 [l_p0] w K = B23 l_p0 w K := by kernel_rfl
theorem c23 {l_p0 : Value} {w : World} {K : Value → World → Prop} (h : B23 l_p0 w K) : Calls prog 23 #[l_p0] w (Ret K) :=
  denFn_calls Tryz.func23 T23_ok (Eq.mpr (B23_eq l_p0 w K) h)

-- 21 (*holdfast/pager.Pager).Cached
def T21 : Ann := (.seq .none (.seq (.seq .none (.seq (.seq .none .none) .none)) (.seq .none .none)))
theorem T21_ok : chkFn prog Tryz.f21 T21 = true := by kernel_rfl
def B21 (p_p0 : Value) (w : World) (K : Value → World → Prop) : Prop :=
  pvv prog (oEq .eql 25 (.tmp 3) (.const (.pointer none)) p_p0 (.pointer none)) w fun t_0 w =>
  cd t_0 (
    K (.slice none 0 0) w) <|
  pv prog (oNil p_p0) w fun t_1 w =>
  pvv prog (Instr.fieldAt 80 t_1 4) w fun t_2 w =>
  ldv prog (Instr.loadAt 22 t_2) w fun t_3 w =>
  Calls prog 47 #[t_3] w (Ret fun t_4 w =>
  K t_4 w)
theorem B21_eq (p_p0 : Value) (w : World) (K : Value → World → Prop) : denFn prog Tryz.f21 T21 [p_p0] w K = B21 p_p0 w K := by kernel_rfl
theorem c21 {p_p0 : Value} {w : World} {K : Value → World → Prop} (h : B21 p_p0 w K) : Calls prog 21 #[p_p0] w (Ret K) :=
  denFn_calls Tryz.func21 T21_ok (Eq.mpr (B21_eq p_p0 w K) h)

-- 84 slices.Clone[[]holdfast/block.write,holdfast/block.write]
def T84 : Ann := (.seq .none (.seq (.seq .none (.seq (.seq .none .none) .none)) (.seq .none .none)))
theorem T84_ok : chkFn prog Tryz.f84 T84 = true := by kernel_rfl
def B84 (s_p0 : Value) (w : World) (K : Value → World → Prop) : Prop :=
  pvv prog (oEq .eql 99 (.tmp 3) (.const (.slice none 0 0)) s_p0 (.slice none 0 0)) w fun t_0 w =>
  cd t_0 (
    K (.slice none 0 0) w) <|
  efv prog (Instr.buildSlice 99 0 #[]) w fun t_1 w =>
  ef prog (oBi .append #[99, 99] 99 #[false, false] #[t_1, s_p0]) w fun t_2 w =>
  K t_2 w
theorem B84_eq (s_p0 : Value) (w : World) (K : Value → World → Prop) : denFn prog Tryz.f84 T84 [s_p0] w K = B84 s_p0 w K := by kernel_rfl
theorem c84 {s_p0 : Value} {w : World} {K : Value → World → Prop} (h : B84 s_p0 w K) : Calls prog 84 #[s_p0] w (Ret K) :=
  denFn_calls Tryz.func84 T84_ok (Eq.mpr (B84_eq s_p0 w K) h)

-- 83 slices.Clone[[][]byte,[]byte]
def T83 : Ann := (.seq .none (.seq (.seq .none (.seq (.seq .none .none) .none)) (.seq .none .none)))
theorem T83_ok : chkFn prog Tryz.f83 T83 = true := by kernel_rfl
def B83 (s_p0 : Value) (w : World) (K : Value → World → Prop) : Prop :=
  pvv prog (oEq .eql 40 (.tmp 3) (.const (.slice none 0 0)) s_p0 (.slice none 0 0)) w fun t_0 w =>
  cd t_0 (
    K (.slice none 0 0) w) <|
  efv prog (Instr.buildSlice 40 0 #[]) w fun t_1 w =>
  ef prog (oBi .append #[40, 40] 40 #[false, false] #[t_1, s_p0]) w fun t_2 w =>
  K t_2 w
theorem B83_eq (s_p0 : Value) (w : World) (K : Value → World → Prop) : denFn prog Tryz.f83 T83 [s_p0] w K = B83 s_p0 w K := by kernel_rfl
theorem c83 {s_p0 : Value} {w : World} {K : Value → World → Prop} (h : B83 s_p0 w K) : Calls prog 83 #[s_p0] w (Ret K) :=
  denFn_calls Tryz.func83 T83_ok (Eq.mpr (B83_eq s_p0 w K) h)

-- 31 (*holdfast/pager.Pager).Hits
def T31 : Ann := (.seq .none (.seq (.seq .none (.seq (.seq .none .none) .none)) (.seq .none .none)))
theorem T31_ok : chkFn prog Tryz.f31 T31 = true := by kernel_rfl
def B31 (p_p0 : Value) (w : World) (K : Value → World → Prop) : Prop :=
  pvv prog (oEq .eql 25 (.tmp 3) (.const (.pointer none)) p_p0 (.pointer none)) w fun t_0 w =>
  cd t_0 (
    K (.int .i64 0) w) <|
  pv prog (oNil p_p0) w fun t_1 w =>
  pvv prog (Instr.fieldAt 80 t_1 6) w fun t_2 w =>
  Calls prog 51 #[t_2] w (Ret fun t_3 w =>
  K t_3 w)
theorem B31_eq (p_p0 : Value) (w : World) (K : Value → World → Prop) : denFn prog Tryz.f31 T31 [p_p0] w K = B31 p_p0 w K := by kernel_rfl
theorem c31 {p_p0 : Value} {w : World} {K : Value → World → Prop} (h : B31 p_p0 w K) : Calls prog 31 #[p_p0] w (Ret K) :=
  denFn_calls Tryz.func31 T31_ok (Eq.mpr (B31_eq p_p0 w K) h)

-- 81 slices.Sort[[]int,int]
def T81 : Ann := (.seq .none .none)
theorem T81_ok : chkFn prog Tryz.f81 T81 = true := by kernel_rfl
def B81 (x_p0 : Value) (w : World) (K : Value → World → Prop) : Prop :=
  pv prog (oBi .len #[22] 3 #[false] #[x_p0]) w fun t_0 w =>
  pvv prog (convert 3 120 t_0) w fun t_1 w =>
  Calls prog 102 #[t_1] w (Ret fun t_2 w =>
  Calls prog 101 #[x_p0, (.int .i64 0), t_0, t_2] w (Ret fun t_3 w =>
  K (.tuple #[]) w))
theorem B81_eq (x_p0 : Value) (w : World) (K : Value → World → Prop) : denFn prog Tryz.f81 T81 [x_p0] w K = B81 x_p0 w K := by kernel_rfl
theorem c81 {x_p0 : Value} {w : World} {K : Value → World → Prop} (h : B81 x_p0 w K) : Calls prog 81 #[x_p0] w (Ret K) :=
  denFn_calls Tryz.func81 T81_ok (Eq.mpr (B81_eq x_p0 w K) h)

-- 89 slices.ContainsFunc[[][]byte,[]byte]
def T89 : Ann := (.seq .none (.seq .none .none))
theorem T89_ok : chkFn prog Tryz.f89 T89 = true := by kernel_rfl
def B89 (s_p0 f_p1 : Value) (w : World) (K : Value → World → Prop) : Prop :=
  Calls prog 104 #[s_p0, f_p1] w (Ret fun t_0 w =>
  pvv prog (binOp .geq 3 t_0 (.int .i64 0)) w fun t_1 w =>
  K t_1 w)
theorem B89_eq (s_p0 f_p1 : Value) (w : World) (K : Value → World → Prop) : denFn prog Tryz.f89 T89 [s_p0, f_p1] w K = B89 s_p0 f_p1 w K := by kernel_rfl
theorem c89 {s_p0 f_p1 : Value} {w : World} {K : Value → World → Prop} (h : B89 s_p0 f_p1 w K) : Calls prog 89 #[s_p0, f_p1] w (Ret K) :=
  denFn_calls Tryz.func89 T89_ok (Eq.mpr (B89_eq s_p0 f_p1 w K) h)

-- 91 slices.ContainsFunc[[]byte,byte]
def T91 : Ann := (.seq .none (.seq .none .none))
theorem T91_ok : chkFn prog Tryz.f91 T91 = true := by kernel_rfl
def B91 (s_p0 f_p1 : Value) (w : World) (K : Value → World → Prop) : Prop :=
  Calls prog 105 #[s_p0, f_p1] w (Ret fun t_0 w =>
  pvv prog (binOp .geq 3 t_0 (.int .i64 0)) w fun t_1 w =>
  K t_1 w)
theorem B91_eq (s_p0 f_p1 : Value) (w : World) (K : Value → World → Prop) : denFn prog Tryz.f91 T91 [s_p0, f_p1] w K = B91 s_p0 f_p1 w K := by kernel_rfl
theorem c91 {s_p0 f_p1 : Value} {w : World} {K : Value → World → Prop} (h : B91 s_p0 f_p1 w K) : Calls prog 91 #[s_p0, f_p1] w (Ret K) :=
  denFn_calls Tryz.func91 T91_ok (Eq.mpr (B91_eq s_p0 f_p1 w K) h)

-- 106 holdfast/holdfastref01.Copy
def T106 : Ann := (.seq .none (.seq .none (.seq .none .none)))
theorem T106_ok : chkFn prog Tryz.f106 T106 = true := by kernel_rfl
def B106 (b_p0 : Value) (w : World) (K : Value → World → Prop) : Prop :=
  ef prog (oBi .append #[30, 30] 30 #[false, false] #[(.slice none 0 0), b_p0]) w fun t_0 w =>
  K t_0 w
theorem B106_eq (b_p0 : Value) (w : World) (K : Value → World → Prop) : denFn prog Tryz.f106 T106 [b_p0] w K = B106 b_p0 w K := by kernel_rfl
theorem c106 {b_p0 : Value} {w : World} {K : Value → World → Prop} (h : B106 b_p0 w K) : Calls prog 106 #[b_p0] w (Ret K) :=
  denFn_calls Tryz.func106 T106_ok (Eq.mpr (B106_eq b_p0 w K) h)

-- 80 slices.Collect[int]
def T80 : Ann := (.seq .none (.seq .none .none))
theorem T80_ok : chkFn prog Tryz.f80 T80 = true := by kernel_rfl
def B80 (seq_p0 : Value) (w : World) (K : Value → World → Prop) : Prop :=
  Calls prog 100 #[(.slice none 0 0), seq_p0] w (Ret fun t_0 w =>
  K t_0 w)
theorem B80_eq (seq_p0 : Value) (w : World) (K : Value → World → Prop) : denFn prog Tryz.f80 T80 [seq_p0] w K = B80 seq_p0 w K := by kernel_rfl
theorem c80 {seq_p0 : Value} {w : World} {K : Value → World → Prop} (h : B80 seq_p0 w K) : Calls prog 80 #[seq_p0] w (Ret K) :=
  denFn_calls Tryz.func80 T80_ok (Eq.mpr (B80_eq seq_p0 w K) h)


end Go.Proofs.YtcjklbhobmkalaaGreat
