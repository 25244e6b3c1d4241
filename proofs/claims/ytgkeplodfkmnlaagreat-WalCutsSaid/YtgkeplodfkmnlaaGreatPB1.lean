import Derived.Test.YtgkeplodfkmnlaaGreatPI
set_option linter.all false
set_option maxRecDepth 100000
namespace Go.Proofs.YtgkeplodfkmnlaaGreat
open Go Hold
-- 106 slices.partitionOrdered[int]
def T106 : Ann := (.seq .none (.seq (.draw [.op 0 .pure, .op 1 .pure, .op 2 .pure, .op 3 .pure, .op 4 .pure, .op 5 .pure, .op 6 .pure, .op 8 .pure, .op 9 .pure, .op 10 .pure, .op 7 .load, .op 11 .load, .op 12 .pure, .op 13 .eff, .op 14 .pure, .op 15 .eff]) (.seq .none (.seq (.block (.loop 70367670436864 [10] (.seq (.seq (.draw [.op 0 .pure, .op 1 .pure, .op 2 .pure, .op 3 .pure, .op 4 .pure, .op 5 .pure, .op 6 .pure, .op 8 .pure, .op 9 .pure, .op 10 .pure, .op 7 .load, .op 11 .load, .op 12 .eff, .op 13 .pure]) (.seq .none .none)) (.block .none)))) (.seq (.block (.loop 9223301668110600192 [11] (.seq (.seq (.draw [.op 0 .pure, .op 1 .pure, .op 2 .pure, .op 3 .pure, .op 4 .pure, .op 5 .pure, .op 6 .pure, .op 8 .pure, .op 9 .pure, .op 10 .pure, .op 7 .load, .op 11 .load, .op 12 .eff, .op 13 .pure, .op 14 .pure]) (.seq .none .none)) (.block .none)))) (.seq (.seq .none (.seq (.seq (.draw [.op 0 .pure, .op 1 .pure, .op 2 .pure, .op 3 .pure, .op 4 .pure, .op 5 .pure, .op 6 .pure, .op 8 .pure, .op 9 .pure, .op 10 .pure, .op 7 .load, .op 11 .load, .op 12 .pure, .op 13 .eff, .op 14 .pure, .op 15 .eff]) (.seq .none .none)) .none)) (.seq (.draw [.op 0 .pure, .op 1 .pure, .op 2 .pure, .op 3 .pure, .op 4 .pure, .op 5 .pure, .op 6 .pure, .op 8 .pure, .op 9 .pure, .op 10 .pure, .op 7 .load, .op 11 .load, .op 12 .pure, .op 13 .eff, .op 14 .pure, .op 15 .eff]) (.seq .none (.seq .none (.seq (.block (.loop 11417981541647678414640987641481260342710373376 [10, 11] (.block (.seq (.block (.loop 41537741042978506913543222282159104 [10] (.seq (.seq (.draw [.op 0 .pure, .op 1 .pure, .op 2 .pure, .op 3 .pure, .op 4 .pure, .op 5 .pure, .op 6 .pure, .op 8 .pure, .op 9 .pure, .op 10 .pure, .op 7 .load, .op 11 .load, .op 12 .eff, .op 13 .pure]) (.seq .none .none)) (.block .none)))) (.seq (.block (.loop 5444476332360147136792965474937657624576 [11] (.seq (.seq (.draw [.op 0 .pure, .op 1 .pure, .op 2 .pure, .op 3 .pure, .op 4 .pure, .op 5 .pure, .op 6 .pure, .op 8 .pure, .op 9 .pure, .op 10 .pure, .op 7 .load, .op 11 .load, .op 12 .eff, .op 13 .pure, .op 14 .pure]) (.seq .none .none)) (.block .none)))) (.seq (.seq .none (.seq .none .none)) (.seq (.draw [.op 0 .pure, .op 1 .pure, .op 2 .pure, .op 3 .pure, .op 4 .pure, .op 5 .pure, .op 6 .pure, .op 8 .pure, .op 9 .pure, .op 10 .pure, .op 7 .load, .op 11 .load, .op 12 .pure, .op 13 .eff, .op 14 .pure, .op 15 .eff]) (.seq .none .none)))))))) (.seq (.draw [.op 0 .pure, .op 1 .pure, .op 2 .pure, .op 3 .pure, .op 4 .pure, .op 5 .pure, .op 6 .pure, .op 8 .pure, .op 9 .pure, .op 10 .pure, .op 7 .load, .op 11 .load, .op 12 .pure, .op 13 .eff, .op 14 .pure, .op 15 .eff]) (.seq .none .none))))))))))))
theorem T106_ok : chkFn prog Tryz.f106 T106 = true := by kernel_rfl
def B106 (data_p0 a_p1 b_p2 pivot_p3 : Value) (w : World) (K : Value → World → Prop) : Prop :=
  dr w fun w =>
  pvv prog (Instr.indexAt 29 data_p0 pivot_p3) w fun t_0 w =>
  pvv prog (Instr.indexAt 29 data_p0 a_p1) w fun t_1 w =>
  bindS (vN (Instr.loadAt 3 t_0)) fun m_3 => ldv prog (Instr.loadAt 3 t_0) w fun t_2 w =>
  bindS (vN (Instr.loadAt 3 t_1)) fun m_5 => ldv prog (Instr.loadAt 3 t_1) w fun t_4 w =>
  pvv prog (Instr.indexAt 29 data_p0 a_p1) w fun t_6 w =>
  efu prog (Instr.storeAt 3 t_6 t_2) w fun u_7 w =>
  pvv prog (Instr.indexAt 29 data_p0 pivot_p3) w fun t_8 w =>
  efu prog (Instr.storeAt 3 t_8 t_4) w fun u_9 w =>
  pvv prog (binOp .add 3 a_p1 (.int .i64 1)) w fun t_10 w =>
  pvv prog (binOp .sub 3 b_p2 (.int .i64 1)) w fun t_11 w =>
  lp (fun σ w again_13 => pop σ fun i_12 σ => fin σ <|
    dr w fun w =>
    pvv prog (binOp .leq 3 i_12 t_11) w fun t_14 w =>
    gate (some (t_14, true)) (fun K => K data_p0 w) w fun t_15 w =>
    gate (some (t_14, true)) (fun K => K i_12 w) w fun t_16 w =>
    gate (some (t_14, true)) (fun K => pvv prog (Instr.indexAt 29 t_15 t_16) w K) w fun t_17 w =>
    gate (some (t_14, true)) (fun K => K data_p0 w) w fun t_18 w =>
    gate (some (t_14, true)) (fun K => K a_p1 w) w fun t_19 w =>
    gate (some (t_14, true)) (fun K => pvv prog (Instr.indexAt 29 t_18 t_19) w K) w fun t_20 w =>
    bindS (vN (Instr.loadAt 3 t_17)) fun m_22 => gate (some (t_14, true)) (fun K => ldv prog (Instr.loadAt 3 t_17) w K) w fun t_21 w =>
    bindS (vN (Instr.loadAt 3 t_20)) fun m_24 => gate (some (t_14, true)) (fun K => ldv prog (Instr.loadAt 3 t_20) w K) w fun t_23 w =>
    gate (some (t_14, true)) (fun K => Calls prog 104 #[t_21, t_23] w (Ret fun s_138 w => K s_138 w)) w fun t_25 w =>
    pv prog (oPick t_14 t_25 (.bool false)) w fun t_26 w =>
    cd t_26 (
      pvv prog (binOp .add 3 i_12 (.int .i64 1)) w fun t_27 w =>
      again_13 [t_27] w) <|
    lp (fun σ w again_29 => pop σ fun j_28 σ => fin σ <|
      dr w fun w =>
      pvv prog (binOp .leq 3 i_12 j_28) w fun t_30 w =>
      gate (some (t_30, true)) (fun K => K data_p0 w) w fun t_31 w =>
      gate (some (t_30, true)) (fun K => K j_28 w) w fun t_32 w =>
      gate (some (t_30, true)) (fun K => pvv prog (Instr.indexAt 29 t_31 t_32) w K) w fun t_33 w =>
      gate (some (t_30, true)) (fun K => K data_p0 w) w fun t_34 w =>
      gate (some (t_30, true)) (fun K => K a_p1 w) w fun t_35 w =>
      gate (some (t_30, true)) (fun K => pvv prog (Instr.indexAt 29 t_34 t_35) w K) w fun t_36 w =>
      bindS (vN (Instr.loadAt 3 t_33)) fun m_38 => gate (some (t_30, true)) (fun K => ldv prog (Instr.loadAt 3 t_33) w K) w fun t_37 w =>
      bindS (vN (Instr.loadAt 3 t_36)) fun m_40 => gate (some (t_30, true)) (fun K => ldv prog (Instr.loadAt 3 t_36) w K) w fun t_39 w =>
      gate (some (t_30, true)) (fun K => Calls prog 104 #[t_37, t_39] w (Ret fun s_137 w => K s_137 w)) w fun t_41 w =>
      gate (some (t_30, true)) (fun K => pvv prog (Op.unary .not t_41) w K) w fun t_42 w =>
      pv prog (oPick t_30 t_42 (.bool false)) w fun t_43 w =>
      cd t_43 (
        pvv prog (binOp .sub 3 j_28 (.int .i64 1)) w fun t_44 w =>
        again_29 [t_44] w) <|
      pvv prog (binOp .gtr 3 i_12 j_28) w fun t_45 w =>
      cd t_45 (
        dr w fun w =>
        pvv prog (Instr.indexAt 29 data_p0 a_p1) w fun t_46 w =>
        pvv prog (Instr.indexAt 29 data_p0 j_28) w fun t_47 w =>
        bindS (vN (Instr.loadAt 3 t_46)) fun m_49 => ldv prog (Instr.loadAt 3 t_46) w fun t_48 w =>
        bindS (vN (Instr.loadAt 3 t_47)) fun m_51 => ldv prog (Instr.loadAt 3 t_47) w fun t_50 w =>
        pvv prog (Instr.indexAt 29 data_p0 j_28) w fun t_52 w =>
        efu prog (Instr.storeAt 3 t_52 t_48) w fun u_53 w =>
        pvv prog (Instr.indexAt 29 data_p0 a_p1) w fun t_54 w =>
        efu prog (Instr.storeAt 3 t_54 t_50) w fun u_55 w =>
        K (.tuple #[j_28, (.bool true)]) w) <|
      dr w fun w =>
      pvv prog (Instr.indexAt 29 data_p0 j_28) w fun t_58 w =>
      pvv prog (Instr.indexAt 29 data_p0 i_12) w fun t_59 w =>
      bindS (vN (Instr.loadAt 3 t_58)) fun m_61 => ldv prog (Instr.loadAt 3 t_58) w fun t_60 w =>
      bindS (vN (Instr.loadAt 3 t_59)) fun m_63 => ldv prog (Instr.loadAt 3 t_59) w fun t_62 w =>
      pvv prog (Instr.indexAt 29 data_p0 i_12) w fun t_64 w =>
      efu prog (Instr.storeAt 3 t_64 t_60) w fun u_65 w =>
      pvv prog (Instr.indexAt 29 data_p0 j_28) w fun t_66 w =>
      efu prog (Instr.storeAt 3 t_66 t_62) w fun u_67 w =>
      pvv prog (binOp .add 3 i_12 (.int .i64 1)) w fun t_68 w =>
      pvv prog (binOp .sub 3 j_28 (.int .i64 1)) w fun t_69 w =>
      lp (fun σ w again_72 => pop σ fun i_70 σ => pop σ fun j_71 σ => fin σ <|
        lp (fun σ w again_74 => pop σ fun i_73 σ => fin σ <|
          dr w fun w =>
          pvv prog (binOp .leq 3 i_73 j_71) w fun t_75 w =>
          gate (some (t_75, true)) (fun K => K data_p0 w) w fun t_76 w =>
          gate (some (t_75, true)) (fun K => K i_73 w) w fun t_77 w =>
          gate (some (t_75, true)) (fun K => pvv prog (Instr.indexAt 29 t_76 t_77) w K) w fun t_78 w =>
          gate (some (t_75, true)) (fun K => K data_p0 w) w fun t_79 w =>
          gate (some (t_75, true)) (fun K => K a_p1 w) w fun t_80 w =>
          gate (some (t_75, true)) (fun K => pvv prog (Instr.indexAt 29 t_79 t_80) w K) w fun t_81 w =>
          bindS (vN (Instr.loadAt 3 t_78)) fun m_83 => gate (some (t_75, true)) (fun K => ldv prog (Instr.loadAt 3 t_78) w K) w fun t_82 w =>
          bindS (vN (Instr.loadAt 3 t_81)) fun m_85 => gate (some (t_75, true)) (fun K => ldv prog (Instr.loadAt 3 t_81) w K) w fun t_84 w =>
          gate (some (t_75, true)) (fun K => Calls prog 104 #[t_82, t_84] w (Ret fun s_134 w => K s_134 w)) w fun t_86 w =>
          pv prog (oPick t_75 t_86 (.bool false)) w fun t_87 w =>
          cd t_87 (
            pvv prog (binOp .add 3 i_73 (.int .i64 1)) w fun t_88 w =>
            again_74 [t_88] w) <|
          lp (fun σ w again_90 => pop σ fun j_89 σ => fin σ <|
            dr w fun w =>
            pvv prog (binOp .leq 3 i_73 j_89) w fun t_91 w =>
            gate (some (t_91, true)) (fun K => K data_p0 w) w fun t_92 w =>
            gate (some (t_91, true)) (fun K => K j_89 w) w fun t_93 w =>
            gate (some (t_91, true)) (fun K => pvv prog (Instr.indexAt 29 t_92 t_93) w K) w fun t_94 w =>
            gate (some (t_91, true)) (fun K => K data_p0 w) w fun t_95 w =>
            gate (some (t_91, true)) (fun K => K a_p1 w) w fun t_96 w =>
            gate (some (t_91, true)) (fun K => pvv prog (Instr.indexAt 29 t_95 t_96) w K) w fun t_97 w =>
            bindS (vN (Instr.loadAt 3 t_94)) fun m_99 => gate (some (t_91, true)) (fun K => ldv prog (Instr.loadAt 3 t_94) w K) w fun t_98 w =>
            bindS (vN (Instr.loadAt 3 t_97)) fun m_101 => gate (some (t_91, true)) (fun K => ldv prog (Instr.loadAt 3 t_97) w K) w fun t_100 w =>
            gate (some (t_91, true)) (fun K => Calls prog 104 #[t_98, t_100] w (Ret fun s_133 w => K s_133 w)) w fun t_102 w =>
            gate (some (t_91, true)) (fun K => pvv prog (Op.unary .not t_102) w K) w fun t_103 w =>
            pv prog (oPick t_91 t_103 (.bool false)) w fun t_104 w =>
            cd t_104 (
              pvv prog (binOp .sub 3 j_89 (.int .i64 1)) w fun t_105 w =>
              again_90 [t_105] w) <|
            pvv prog (binOp .gtr 3 i_73 j_89) w fun t_106 w =>
            cd t_106 (
              dr w fun w =>
              pvv prog (Instr.indexAt 29 data_p0 a_p1) w fun t_107 w =>
              pvv prog (Instr.indexAt 29 data_p0 j_89) w fun t_108 w =>
              bindS (vN (Instr.loadAt 3 t_107)) fun m_110 => ldv prog (Instr.loadAt 3 t_107) w fun t_109 w =>
              bindS (vN (Instr.loadAt 3 t_108)) fun m_112 => ldv prog (Instr.loadAt 3 t_108) w fun t_111 w =>
              pvv prog (Instr.indexAt 29 data_p0 j_89) w fun t_113 w =>
              efu prog (Instr.storeAt 3 t_113 t_109) w fun u_114 w =>
              pvv prog (Instr.indexAt 29 data_p0 a_p1) w fun t_115 w =>
              efu prog (Instr.storeAt 3 t_115 t_111) w fun u_116 w =>
              K (.tuple #[j_89, (.bool false)]) w) <|
            dr w fun w =>
            pvv prog (Instr.indexAt 29 data_p0 j_89) w fun t_119 w =>
            pvv prog (Instr.indexAt 29 data_p0 i_73) w fun t_120 w =>
            bindS (vN (Instr.loadAt 3 t_119)) fun m_122 => ldv prog (Instr.loadAt 3 t_119) w fun t_121 w =>
            bindS (vN (Instr.loadAt 3 t_120)) fun m_124 => ldv prog (Instr.loadAt 3 t_120) w fun t_123 w =>
            pvv prog (Instr.indexAt 29 data_p0 i_73) w fun t_125 w =>
            efu prog (Instr.storeAt 3 t_125 t_121) w fun u_126 w =>
            pvv prog (Instr.indexAt 29 data_p0 j_89) w fun t_127 w =>
            efu prog (Instr.storeAt 3 t_127 t_123) w fun u_128 w =>
            pvv prog (binOp .add 3 i_73 (.int .i64 1)) w fun t_129 w =>
            pvv prog (binOp .sub 3 j_89 (.int .i64 1)) w fun t_130 w =>
            again_72 [t_129, t_130] w) [j_71] w) [i_70] w) [t_68, t_69] w) [t_11] w) [t_10] w
theorem B106_eq (data_p0 a_p1 b_p2 pivot_p3 : Value) (w : World) (K : Value → World → Prop) : denFn prog Tryz.f106 T106 [data_p0, a_p1, b_p2, pivot_p3] w K = B106 data_p0 a_p1 b_p2 pivot_p3 w K := by kernel_rfl
theorem c106 {data_p0 a_p1 b_p2 pivot_p3 : Value} {w : World} {K : Value → World → Prop} (h : B106 data_p0 a_p1 b_p2 pivot_p3 w K) : Calls prog 106 #[data_p0, a_p1, b_p2, pivot_p3] w (Ret K) :=
  denFn_calls Tryz.func106 T106_ok (Eq.mpr (B106_eq data_p0 a_p1 b_p2 pivot_p3 w K) h)

-- 16 holdfast/wal.Open
def T16 : Ann := (.seq .none (.seq (.block (.seq .none (.seq (.seq .none .none) (.seq .none (.seq (.seq .none .none) .none))))) (.seq .none (.seq .none (.seq .none (.seq (.seq .none (.seq (.seq .none .none) .none)) (.seq (.draw [.op 0 .pure, .op 1 .pure, .op 2 .pure, .op 3 .pure, .op 5 .pure, .op 6 .pure, .op 4 .eff, .op 7 .eff, .op 8 .pure, .op 9 .pure, .op 10 .eff, .op 11 .pure, .op 12 .pure, .op 13 .eff]) (.seq (.seq .none (.seq (.seq .none .none) .none)) (.seq (.seq .none (.block (.loop 20281790633632027733809801730096 [11] (.seq (.seq .none (.seq .none .none)) (.block (.seq .none (.seq (.seq .none (.seq (.seq .none .none) .none)) .none))))))) (.seq .none .none))))))))))
theorem T16_ok : chkFn prog Tryz.f16 T16 = true := by kernel_rfl
def B16 (d_p0 size_p1 : Value) (w : World) (K : Value → World → Prop) : Prop :=
  pvv prog (oEq .eql 42 (.tmp 14) (.const (.pointer none)) d_p0 (.pointer none)) w fun t_0 w =>
  cd t_0 (
    K (.tuple #[(.pointer none), (.int .i64 1)]) w) <|
  pvv prog (binOp .lss 3 size_p1 (.int .i64 2)) w fun t_1 w =>
  gate (some (t_1, false)) (fun K => K size_p1 w) w fun t_2 w =>
  gate (some (t_1, false)) (fun K => K d_p0 w) w fun t_3 w =>
  gate (some (t_1, false)) (fun K => Calls prog 40 #[t_3] w (Ret K)) w fun t_4 w =>
  gate (some (t_1, false)) (fun K => pvv prog (binOp .sub 3 t_4 (.int .i64 2)) w K) w fun t_5 w =>
  gate (some (t_1, false)) (fun K => pvv prog (binOp .gtr 3 t_2 t_5) w K) w fun t_6 w =>
  pv prog (oPick t_1 (.bool true) t_6) w fun t_7 w =>
  cd t_7 (
    K (.tuple #[(.pointer none), (.int .i64 2)]) w) <|
  Calls prog 42 #[d_p0] w (Ret fun t_8 w =>
  Calls prog 41 #[t_8] w (Ret fun t_9 w =>
  pvv prog (Instr.extract t_9 0) w fun t_10 w =>
  pvv prog (Instr.extract t_9 1) w fun t_11 w =>
  pvv prog (Instr.build 67 #[(0, t_10)]) w fun t_12 w =>
  efv prog (Instr.makeMap 68 none) w fun t_13 w =>
  pvv prog (Instr.build 70 #[(0, t_12), (1, size_p1), (4, t_13)]) w fun t_14 w =>
  efv prog (Instr.box 70 t_14) w fun t_15 w =>
  Calls prog 34 #[t_10, (.int .i64 0)] w (Ret fun t_16 w =>
  pvv prog (Instr.extract t_16 0) w fun t_17 w =>
  pvv prog (Instr.extract t_16 1) w fun t_18 w =>
  Calls prog 43 #[t_17] w (Ret fun t_19 w =>
  cd t_19 (
    K (.tuple #[t_15, (.int .i64 0)]) w) <|
  dr w fun w =>
  pvv prog (Instr.sliceAt 60 t_17 (some (.int .i64 2)) (some (.int .i64 10)) none) w fun t_20 w =>
  pvv prog (Instr.sliceAt 60 t_17 (some (.int .i64 10)) none none) w fun t_21 w =>
  Calls prog 44 #[t_20] w (Ret fun t_22 w =>
  Calls prog 45 #[t_21] w (Ret fun t_23 w =>
  pv prog (oNil t_15) w fun t_24 w =>
  pvv prog (Instr.fieldAt 70 t_24 2) w fun t_25 w =>
  efu prog (Instr.storeAt 3 t_25 t_22) w fun u_26 w =>
  pv prog (oNil t_15) w fun t_27 w =>
  pvv prog (Instr.fieldAt 70 t_27 3) w fun t_28 w =>
  efu prog (Instr.storeAt 3 t_28 t_23) w fun u_29 w =>
  pvv prog (Instr.indexAt 60 t_17 (.int .i64 0)) w fun t_30 w =>
  ldv prog (Instr.loadAt 5 t_30) w fun t_31 w =>
  pvv prog (oEq .neq 5 (.tmp 60) (.const (.int .u8 72)) t_31 (.int .u8 72)) w fun t_32 w =>
  gate (some (t_32, false)) (fun K => K t_17 w) w fun t_33 w =>
  gate (some (t_32, false)) (fun K => pvv prog (Instr.indexAt 60 t_33 (.int .i64 1)) w K) w fun t_34 w =>
  gate (some (t_32, false)) (fun K => ldv prog (Instr.loadAt 5 t_34) w K) w fun t_35 w =>
  gate (some (t_32, false)) (fun K => pvv prog (oEq .neq 5 (.tmp 65) (.const (.int .u8 70)) t_35 (.int .u8 70)) w K) w fun t_36 w =>
  pv prog (oPick t_32 (.bool true) t_36) w fun t_37 w =>
  gate (some (t_37, false)) (fun K => K t_15 w) w fun t_38 w =>
  gate (some (t_37, false)) (fun K => pv prog (oNil t_38) w K) w fun t_39 w =>
  gate (some (t_37, false)) (fun K => pvv prog (Instr.fieldAt 70 t_39 2) w K) w fun t_40 w =>
  gate (some (t_37, false)) (fun K => ldv prog (Instr.loadAt 3 t_40) w K) w fun t_41 w =>
  gate (some (t_37, false)) (fun K => pvv prog (binOp .lss 3 t_41 (.int .i64 0)) w K) w fun t_42 w =>
  pv prog (oPick t_37 (.bool true) t_42) w fun t_43 w =>
  gate (some (t_43, false)) (fun K => K t_17 w) w fun t_44 w =>
  gate (some (t_43, false)) (fun K => pvv prog (Instr.sliceAt 60 t_44 (some (.int .i64 12)) none none) w K) w fun t_45 w =>
  gate (some (t_43, false)) (fun K => Calls prog 43 #[t_45] w (Ret K)) w fun t_46 w =>
  gate (some (t_43, false)) (fun K => pvv prog (Op.unary .not t_46) w K) w fun t_47 w =>
  pv prog (oPick t_43 (.bool true) t_47) w fun t_48 w =>
  gate (some (t_48, false)) (fun K => K t_15 w) w fun t_49 w =>
  gate (some (t_48, false)) (fun K => pv prog (oNil t_49) w K) w fun t_50 w =>
  gate (some (t_48, false)) (fun K => pvv prog (Instr.fieldAt 70 t_50 3) w K) w fun t_51 w =>
  gate (some (t_48, false)) (fun K => ldv prog (Instr.loadAt 3 t_51) w K) w fun t_52 w =>
  gate (some (t_48, false)) (fun K => K size_p1 w) w fun t_53 w =>
  gate (some (t_48, false)) (fun K => pvv prog (binOp .gtr 3 t_52 t_53) w K) w fun t_54 w =>
  pv prog (oPick t_48 (.bool true) t_54) w fun t_55 w =>
  cd t_55 (
    K (.tuple #[(.pointer none), (.int .i64 15)]) w) <|
  lp (fun σ w again_57 => pop σ fun n_56 σ => fin σ <|
    pv prog (oNil t_15) w fun t_58 w =>
    pvv prog (Instr.fieldAt 70 t_58 3) w fun t_59 w =>
    ldv prog (Instr.loadAt 3 t_59) w fun t_60 w =>
    pvv prog (binOp .leq 3 n_56 t_60) w fun t_61 w =>
    cd t_61 (
      Calls prog 46 #[t_15, n_56] w (Ret fun t_62 w =>
      pvv prog (oEq .eql 3 (.tmp 98) (.const (.int .i64 0)) t_62 (.int .i64 0)) w fun t_63 w =>
      cd t_63 (
        K (.tuple #[(.pointer none), (.int .i64 15)]) w) <|
      pvv prog (binOp .add 3 t_62 (.int .i64 1)) w fun t_64 w =>
      pvv prog (binOp .add 3 n_56 t_64) w fun t_65 w =>
      again_57 [t_65] w)) <|
    K (.tuple #[t_15, (.int .i64 0)]) w) [(.int .i64 1)] w))))))
theorem B16_eq (d_p0 size_p1 : Value) (w : World) (K : Value → World → Prop) : denFn prog Tryz.f16 T16 [d_p0, size_p1] w K = B16 d_p0 size_p1 w K := by kernel_rfl
theorem c16 {d_p0 size_p1 : Value} {w : World} {K : Value → World → Prop} (h : B16 d_p0 size_p1 w K) : Calls prog 16 #[d_p0, size_p1] w (Ret K) :=
  denFn_calls Tryz.func16 T16_ok (Eq.mpr (B16_eq d_p0 size_p1 w K) h)

-- 109 slices.siftDownOrdered[int]
def T109 : Ann := (.seq .none (.block (.loop 75557863725914323417856 [8] (.block (.seq .none (.seq (.seq .none (.seq .none .none)) (.meet 549755683328 [9] (.seq (.draw [.op 0 .pure, .op 1 .pure, .op 2 .pure, .op 3 .pure, .op 4 .pure, .op 5 .pure, .op 6 .pure, .op 7 .pure, .op 8 .pure, .op 9 .pure, .op 11 .pure, .op 12 .pure, .op 13 .pure, .op 14 .pure, .op 15 .pure, .op 16 .pure, .op 10 .load, .op 17 .load, .op 18 .eff, .op 19 .pure]) (.seq .none .none)) (.seq (.seq (.draw [.op 0 .pure, .op 1 .pure, .op 2 .pure, .op 3 .pure, .op 4 .pure, .op 6 .pure, .op 7 .pure, .op 8 .pure, .op 9 .pure, .op 10 .pure, .op 5 .load, .op 11 .load, .op 12 .eff, .op 13 .pure]) (.seq .none .none)) (.seq (.draw [.op 0 .pure, .op 1 .pure, .op 2 .pure, .op 3 .pure, .op 4 .pure, .op 5 .pure, .op 6 .pure, .op 7 .pure, .op 8 .pure, .op 9 .pure, .op 10 .pure, .op 11 .pure, .op 12 .pure, .op 14 .pure, .op 15 .pure, .op 16 .pure, .op 17 .pure, .op 18 .pure, .op 13 .load, .op 19 .load, .op 20 .pure, .op 21 .eff, .op 22 .pure, .op 23 .eff]) .none)))))))))
theorem T109_ok : chkFn prog Tryz.f109 T109 = true := by kernel_rfl
def B109 (data_p0 lo_p1 hi_p2 first_p3 : Value) (w : World) (K : Value → World → Prop) : Prop :=
  lp (fun σ w again_1 => pop σ fun root_0 σ => fin σ <|
    pvv prog (binOp .mul 3 (.int .i64 2) root_0) w fun t_2 w =>
    pvv prog (binOp .add 3 t_2 (.int .i64 1)) w fun t_3 w =>
    pvv prog (binOp .geq 3 t_3 hi_p2) w fun t_4 w =>
    cd t_4 (
      K (.tuple #[]) w) <|
    jn (fun σ w => pop σ fun child_5 σ => fin σ <|
      dr w fun w =>
      pvv prog (binOp .add 3 first_p3 root_0) w fun t_6 w =>
      pvv prog (Instr.indexAt 29 data_p0 t_6) w fun t_7 w =>
      pvv prog (binOp .add 3 first_p3 child_5) w fun t_8 w =>
      pvv prog (Instr.indexAt 29 data_p0 t_8) w fun t_9 w =>
      bindS (vN (Instr.loadAt 3 t_7)) fun m_11 => ldv prog (Instr.loadAt 3 t_7) w fun t_10 w =>
      bindS (vN (Instr.loadAt 3 t_9)) fun m_13 => ldv prog (Instr.loadAt 3 t_9) w fun t_12 w =>
      Calls prog 104 #[t_10, t_12] w (Ret fun t_14 w =>
      pvv prog (Op.unary .not t_14) w fun t_15 w =>
      cd t_15 (
        K (.tuple #[]) w) <|
      dr w fun w =>
      pvv prog (binOp .add 3 first_p3 root_0) w fun t_16 w =>
      pvv prog (binOp .add 3 first_p3 child_5) w fun t_17 w =>
      pvv prog (binOp .add 3 first_p3 child_5) w fun t_18 w =>
      pvv prog (Instr.indexAt 29 data_p0 t_18) w fun t_19 w =>
      pvv prog (binOp .add 3 first_p3 root_0) w fun t_20 w =>
      pvv prog (Instr.indexAt 29 data_p0 t_20) w fun t_21 w =>
      bindS (vN (Instr.loadAt 3 t_19)) fun m_23 => ldv prog (Instr.loadAt 3 t_19) w fun t_22 w =>
      bindS (vN (Instr.loadAt 3 t_21)) fun m_25 => ldv prog (Instr.loadAt 3 t_21) w fun t_24 w =>
      pvv prog (Instr.indexAt 29 data_p0 t_16) w fun t_26 w =>
      efu prog (Instr.storeAt 3 t_26 t_22) w fun u_27 w =>
      pvv prog (Instr.indexAt 29 data_p0 t_17) w fun t_28 w =>
      efu prog (Instr.storeAt 3 t_28 t_24) w fun u_29 w =>
      again_1 [child_5] w)) fun k_33 =>
    dr w fun w =>
    pvv prog (binOp .add 3 t_3 (.int .i64 1)) w fun t_34 w =>
    pvv prog (binOp .lss 3 t_34 hi_p2) w fun t_35 w =>
    gate (some (t_35, true)) (fun K => K data_p0 w) w fun t_36 w =>
    gate (some (t_35, true)) (fun K => K first_p3 w) w fun t_37 w =>
    gate (some (t_35, true)) (fun K => K t_3 w) w fun t_38 w =>
    gate (some (t_35, true)) (fun K => pvv prog (binOp .add 3 t_37 t_38) w K) w fun t_39 w =>
    gate (some (t_35, true)) (fun K => pvv prog (Instr.indexAt 29 t_36 t_39) w K) w fun t_40 w =>
    gate (some (t_35, true)) (fun K => K data_p0 w) w fun t_41 w =>
    gate (some (t_35, true)) (fun K => K first_p3 w) w fun t_42 w =>
    gate (some (t_35, true)) (fun K => K t_3 w) w fun t_43 w =>
    gate (some (t_35, true)) (fun K => pvv prog (binOp .add 3 t_42 t_43) w K) w fun t_44 w =>
    gate (some (t_35, true)) (fun K => pvv prog (binOp .add 3 t_44 (.int .i64 1)) w K) w fun t_45 w =>
    gate (some (t_35, true)) (fun K => pvv prog (Instr.indexAt 29 t_41 t_45) w K) w fun t_46 w =>
    bindS (vN (Instr.loadAt 3 t_40)) fun m_48 => gate (some (t_35, true)) (fun K => ldv prog (Instr.loadAt 3 t_40) w K) w fun t_47 w =>
    bindS (vN (Instr.loadAt 3 t_46)) fun m_50 => gate (some (t_35, true)) (fun K => ldv prog (Instr.loadAt 3 t_46) w K) w fun t_49 w =>
    gate (some (t_35, true)) (fun K => Calls prog 104 #[t_47, t_49] w (Ret fun s_54 w => K s_54 w)) w fun t_51 w =>
    pv prog (oPick t_35 t_51 (.bool false)) w fun t_52 w =>
    cd t_52 (
      pvv prog (binOp .add 3 t_3 (.int .i64 1)) w fun t_53 w =>
      k_33 [t_53] w) <|
    k_33 [t_3] w) [lo_p1] w
theorem B109_eq (data_p0 lo_p1 hi_p2 first_p3 : Value) (w : World) (K : Value → World → Prop) : denFn prog Tryz.f109 T109 [data_p0, lo_p1, hi_p2, first_p3] w K = B109 data_p0 lo_p1 hi_p2 first_p3 w K := by kernel_rfl
theorem c109 {data_p0 lo_p1 hi_p2 first_p3 : Value} {w : World} {K : Value → World → Prop} (h : B109 data_p0 lo_p1 hi_p2 first_p3 w K) : Calls prog 109 #[data_p0, lo_p1, hi_p2, first_p3] w (Ret K) :=
  denFn_calls Tryz.func109 T109_ok (Eq.mpr (B109_eq data_p0 lo_p1 hi_p2 first_p3 w K) h)

-- 64 (*holdfast/holdfastref03.Log).group
def T64 : Ann := (.seq .none (.seq .none (.seq .none (.seq (.seq .none (.seq (.seq .none .none) .none)) (.seq .none (.seq (.seq .none (.block (.loop 1180591620167655496896 [10, 11] (.seq (.seq .none (.seq .none .none)) (.seq (.block (.seq .none (.seq (.seq .none (.seq (.seq .none .none) .none)) .none))) .none))))) (.seq .none .none)))))))
theorem T64_ok : chkFn prog Tryz.f64 T64 = true := by kernel_rfl
def B64 (l_p0 n_p1 end_p2 : Value) (w : World) (K : Value → World → Prop) : Prop :=
  Calls prog 61 #[l_p0, n_p1] w (Ret fun t_0 w =>
  Calls prog 63 #[t_0, (.int .i64 0)] w (Ret fun t_1 w =>
  pvv prog (binOp .lss 3 t_1 (.int .i64 1)) w fun t_2 w =>
  gate (some (t_2, false)) (fun K => K t_1 w) w fun t_3 w =>
  gate (some (t_2, false)) (fun K => pvv prog (binOp .gtr 3 t_3 (.int .i64 100)) w K) w fun t_4 w =>
  pv prog (oPick t_2 (.bool true) t_4) w fun t_5 w =>
  gate (some (t_5, false)) (fun K => K n_p1 w) w fun t_6 w =>
  gate (some (t_5, false)) (fun K => K t_1 w) w fun t_7 w =>
  gate (some (t_5, false)) (fun K => pvv prog (binOp .add 3 t_6 t_7) w K) w fun t_8 w =>
  gate (some (t_5, false)) (fun K => K end_p2 w) w fun t_9 w =>
  gate (some (t_5, false)) (fun K => pvv prog (binOp .gtr 3 t_8 t_9) w K) w fun t_10 w =>
  pv prog (oPick t_5 (.bool true) t_10) w fun t_11 w =>
  gate (some (t_11, false)) (fun K => K t_0 w) w fun t_12 w =>
  gate (some (t_11, false)) (fun K => K t_1 w) w fun t_13 w =>
  gate (some (t_11, false)) (fun K => pvv prog (binOp .mul 3 (.int .i64 2) t_13) w K) w fun t_14 w =>
  gate (some (t_11, false)) (fun K => pvv prog (binOp .add 3 (.int .i64 2) t_14) w K) w fun t_15 w =>
  gate (some (t_11, false)) (fun K => Calls prog 62 #[t_12, t_15] w (Ret K)) w fun t_16 w =>
  gate (some (t_11, false)) (fun K => pvv prog (Op.unary .not t_16) w K) w fun t_17 w =>
  pv prog (oPick t_11 (.bool true) t_17) w fun t_18 w =>
  cd t_18 (
    K (.tuple #[(.slice none 0 0), (.bool false)]) w) <|
  lp (fun σ w again_21 => pop σ fun out_19 σ => pop σ fun i_20 σ => fin σ <|
    pvv prog (binOp .lss 3 i_20 t_1) w fun t_22 w =>
    cd t_22 (
      pvv prog (binOp .mul 3 (.int .i64 2) i_20) w fun t_23 w =>
      pvv prog (binOp .add 3 (.int .i64 2) t_23) w fun t_24 w =>
      Calls prog 63 #[t_0, t_24] w (Ret fun t_25 w =>
      Calls prog 70 #[l_p0] w (Ret fun t_26 w =>
      pvv prog (binOp .geq 3 t_25 t_26) w fun t_27 w =>
      gate (some (t_27, false)) (fun K => K i_20 w) w fun t_28 w =>
      gate (some (t_27, false)) (fun K => pvv prog (binOp .gtr 3 t_28 (.int .i64 0)) w K) w fun t_29 w =>
      gate (some (t_27, false)) (fun K => K t_29 w) w fun t_30 w =>
      gate (some (t_30, true)) (fun K => K t_25 w) w fun t_31 w =>
      gate (some (t_30, true)) (fun K => K out_19 w) w fun t_32 w =>
      gate (some (t_30, true)) (fun K => K i_20 w) w fun t_33 w =>
      gate (some (t_30, true)) (fun K => pvv prog (binOp .sub 3 t_33 (.int .i64 1)) w K) w fun t_34 w =>
      gate (some (t_30, true)) (fun K => pvv prog (Instr.indexAt 29 t_32 t_34) w K) w fun t_35 w =>
      gate (some (t_30, true)) (fun K => ldv prog (Instr.loadAt 3 t_35) w K) w fun t_36 w =>
      gate (some (t_30, true)) (fun K => pvv prog (binOp .leq 3 t_31 t_36) w K) w fun t_37 w =>
      gate (some (t_27, false)) (fun K => pv prog (oPick t_30 t_37 (.bool false)) w K) w fun t_38 w =>
      pv prog (oPick t_27 (.bool true) t_38) w fun t_39 w =>
      cd t_39 (
        K (.tuple #[(.slice none 0 0), (.bool false)]) w) <|
      efv prog (Instr.buildSlice 29 1 #[(0, t_25)]) w fun t_40 w =>
      ef prog (oBi .append #[29, 29] 29 #[false, false] #[out_19, t_40]) w fun t_41 w =>
      pvv prog (binOp .add 3 i_20 (.int .i64 1)) w fun t_42 w =>
      again_21 [t_41, t_42] w))) <|
    K (.tuple #[out_19, (.bool true)]) w) [(.slice none 0 0), (.int .i64 0)] w))
theorem B64_eq (l_p0 n_p1 end_p2 : Value) (w : World) (K : Value → World → Prop) : denFn prog Tryz.f64 T64 [l_p0, n_p1, end_p2] w K = B64 l_p0 n_p1 end_p2 w K := by kernel_rfl
theorem c64 {l_p0 n_p1 end_p2 : Value} {w : World} {K : Value → World → Prop} (h : B64 l_p0 n_p1 end_p2 w K) : Calls prog 64 #[l_p0, n_p1, end_p2] w (Ret K) :=
  denFn_calls Tryz.func64 T64_ok (Eq.mpr (B64_eq l_p0 n_p1 end_p2 w K) h)

-- 98 slices.insertionSortOrdered[int]
def T98 : Ann := (.seq .none (.block (.loop 562949953420480 [6] (.seq (.seq .none (.seq .none .none)) (.seq (.block (.seq .none (.block (.loop 562949953355904 [7] (.seq (.seq (.draw [.op 0 .pure, .op 1 .pure, .op 2 .pure, .op 3 .pure, .op 4 .pure, .op 5 .pure, .op 6 .pure, .op 8 .pure, .op 9 .pure, .op 10 .pure, .op 11 .pure, .op 7 .load, .op 12 .load, .op 13 .eff, .op 14 .pure]) (.seq .none .none)) (.seq (.block (.draw [.op 0 .pure, .op 1 .pure, .op 2 .pure, .op 3 .pure, .op 4 .pure, .op 5 .pure, .op 6 .pure, .op 7 .pure, .op 8 .pure, .op 10 .pure, .op 11 .pure, .op 12 .pure, .op 9 .load, .op 13 .load, .op 14 .pure, .op 15 .eff, .op 16 .pure, .op 17 .eff])) .none)))))) .none)))))
theorem T98_ok : chkFn prog Tryz.f98 T98 = true := by kernel_rfl
def B98 (data_p0 a_p1 b_p2 : Value) (w : World) (K : Value → World → Prop) : Prop :=
  pvv prog (binOp .add 3 a_p1 (.int .i64 1)) w fun t_0 w =>
  lp (fun σ w again_2 => pop σ fun i_1 σ => fin σ <|
    pvv prog (binOp .lss 3 i_1 b_p2) w fun t_3 w =>
    cd t_3 (
      lp (fun σ w again_5 => pop σ fun j_4 σ => fin σ <|
        dr w fun w =>
        pvv prog (binOp .gtr 3 j_4 a_p1) w fun t_6 w =>
        gate (some (t_6, true)) (fun K => K data_p0 w) w fun t_7 w =>
        gate (some (t_6, true)) (fun K => K j_4 w) w fun t_8 w =>
        gate (some (t_6, true)) (fun K => pvv prog (Instr.indexAt 29 t_7 t_8) w K) w fun t_9 w =>
        gate (some (t_6, true)) (fun K => K data_p0 w) w fun t_10 w =>
        gate (some (t_6, true)) (fun K => K j_4 w) w fun t_11 w =>
        gate (some (t_6, true)) (fun K => pvv prog (binOp .sub 3 t_11 (.int .i64 1)) w K) w fun t_12 w =>
        gate (some (t_6, true)) (fun K => pvv prog (Instr.indexAt 29 t_10 t_12) w K) w fun t_13 w =>
        bindS (vN (Instr.loadAt 3 t_9)) fun m_15 => gate (some (t_6, true)) (fun K => ldv prog (Instr.loadAt 3 t_9) w K) w fun t_14 w =>
        bindS (vN (Instr.loadAt 3 t_13)) fun m_17 => gate (some (t_6, true)) (fun K => ldv prog (Instr.loadAt 3 t_13) w K) w fun t_16 w =>
        gate (some (t_6, true)) (fun K => Calls prog 104 #[t_14, t_16] w (Ret fun s_36 w => K s_36 w)) w fun t_18 w =>
        pv prog (oPick t_6 t_18 (.bool false)) w fun t_19 w =>
        cd t_19 (
          dr w fun w =>
          pvv prog (binOp .sub 3 j_4 (.int .i64 1)) w fun t_20 w =>
          pvv prog (binOp .sub 3 j_4 (.int .i64 1)) w fun t_21 w =>
          pvv prog (Instr.indexAt 29 data_p0 t_21) w fun t_22 w =>
          pvv prog (Instr.indexAt 29 data_p0 j_4) w fun t_23 w =>
          bindS (vN (Instr.loadAt 3 t_22)) fun m_25 => ldv prog (Instr.loadAt 3 t_22) w fun t_24 w =>
          bindS (vN (Instr.loadAt 3 t_23)) fun m_27 => ldv prog (Instr.loadAt 3 t_23) w fun t_26 w =>
          pvv prog (Instr.indexAt 29 data_p0 j_4) w fun t_28 w =>
          efu prog (Instr.storeAt 3 t_28 t_24) w fun u_29 w =>
          pvv prog (Instr.indexAt 29 data_p0 t_20) w fun t_30 w =>
          efu prog (Instr.storeAt 3 t_30 t_26) w fun u_31 w =>
          pvv prog (binOp .sub 3 j_4 (.int .i64 1)) w fun t_32 w =>
          again_5 [t_32] w) <|
        pvv prog (binOp .add 3 i_1 (.int .i64 1)) w fun t_35 w =>
        again_2 [t_35] w) [i_1] w) <|
    K (.tuple #[]) w) [t_0] w
theorem B98_eq (data_p0 a_p1 b_p2 : Value) (w : World) (K : Value → World → Prop) : denFn prog Tryz.f98 T98 [data_p0, a_p1, b_p2] w K = B98 data_p0 a_p1 b_p2 w K := by kernel_rfl
theorem c98 {data_p0 a_p1 b_p2 : Value} {w : World} {K : Value → World → Prop} (h : B98 data_p0 a_p1 b_p2 w K) : Calls prog 98 #[data_p0, a_p1, b_p2] w (Ret K) :=
  denFn_calls Tryz.func98 T98_ok (Eq.mpr (B98_eq data_p0 a_p1 b_p2 w K) h)

-- 22 (holdfast/holdfastlaw03.Deed).pages
def T22 : Ann := (.seq .none (.seq .none (.seq (.seq .none (.block (.loop 2251799813685240 [3, 4] (.seq (.seq .none (.seq .none .none)) (.seq (.block (.seq .none (.seq (.seq .none (.block (.loop 8589410368 [6] (.seq (.seq .none (.seq .none .none)) (.seq (.block .none) .none))))) (.meet 2190433320992 [5] (.seq .none (.seq .none .none)) .none)))) .none))))) (.seq .none .none))))
theorem T22_ok : chkFn prog Tryz.f22 T22 = true := by kernel_rfl
def B22 (d_p0 : Value) (w : World) (K : Value → World → Prop) : Prop :=
  efv prog (Instr.box 31 d_p0) w fun d_0 w =>
  lp (fun σ w again_3 => pop σ fun out_1 σ => pop σ fun i_2 σ => fin σ <|
    pvv prog (Instr.fieldAt 31 d_0 2) w fun t_4 w =>
    ldv prog (Instr.loadAt 29 t_4) w fun t_5 w =>
    pv prog (oBi .len #[29] 3 #[false] #[t_5]) w fun t_6 w =>
    pvv prog (binOp .lss 3 i_2 t_6) w fun t_7 w =>
    gate (some (t_7, true)) (fun K => K i_2 w) w fun t_8 w =>
    gate (some (t_7, true)) (fun K => pvv prog (binOp .lss 3 t_8 (.int .i64 102)) w K) w fun t_9 w =>
    pv prog (oPick t_7 t_9 (.bool false)) w fun t_10 w =>
    cd t_10 (
      efv prog (Instr.makeSlice 60 (.int .i64 256) (.int .i64 256)) w fun t_11 w =>
      lp (fun σ w again_13 => pop σ fun k_12 σ => fin σ <|
        pv prog (oBi .len #[60] 3 #[false] #[t_11]) w fun t_14 w =>
        pvv prog (binOp .lss 3 k_12 t_14) w fun t_15 w =>
        cd t_15 (
          pvv prog (Instr.fieldAt 31 d_0 3) w fun t_16 w =>
          ldv prog (Instr.loadAt 5 t_16) w fun t_17 w =>
          pvv prog (convert 3 5 i_2) w fun t_18 w =>
          pvv prog (binOp .add 5 t_17 t_18) w fun t_19 w =>
          pvv prog (Instr.indexAt 60 t_11 k_12) w fun t_20 w =>
          efu prog (Instr.storeAt 5 t_20 t_19) w fun u_21 w =>
          pvv prog (binOp .add 3 k_12 (.int .i64 1)) w fun t_22 w =>
          again_13 [t_22] w) <|
        jn (fun σ w => pop σ fun b_23 σ => fin σ <|
          pvv prog (Instr.fieldAt 31 d_0 2) w fun t_24 w =>
          ldv prog (Instr.loadAt 29 t_24) w fun t_25 w =>
          pvv prog (Instr.indexAt 29 t_25 i_2) w fun t_26 w =>
          ldv prog (Instr.loadAt 3 t_26) w fun t_27 w =>
          pvv prog (Instr.build 65 #[(0, t_27), (1, b_23)]) w fun t_28 w =>
          efv prog (Instr.buildSlice 49 1 #[(0, t_28)]) w fun t_29 w =>
          ef prog (oBi .append #[49, 49] 49 #[false, false] #[out_1, t_29]) w fun t_30 w =>
          pvv prog (binOp .add 3 i_2 (.int .i64 1)) w fun t_31 w =>
          again_3 [t_30, t_31] w) fun k_32 =>
        pvv prog (Instr.fieldAt 31 d_0 1) w fun t_33 w =>
        ldv prog (Instr.loadAt 4 t_33) w fun t_34 w =>
        gate (some (t_34, true)) (fun K => K i_2 w) w fun t_35 w =>
        gate (some (t_34, true)) (fun K => pvv prog (oEq .eql 3 (.tmp 36) (.const (.int .i64 0)) t_35 (.int .i64 0)) w K) w fun t_36 w =>
        pv prog (oPick t_34 t_36 (.bool false)) w fun t_37 w =>
        cd t_37 (
          pvv prog (Instr.sliceAt 60 t_11 none (some (.int .i64 255)) none) w fun t_38 w =>
          k_32 [t_38] w) <|
        k_32 [t_11] w) [(.int .i64 0)] w) <|
    K out_1 w) [(.slice none 0 0), (.int .i64 0)] w
theorem B22_eq (d_p0 : Value) (w : World) (K : Value → World → Prop) : denFn prog Tryz.f22 T22 [d_p0] w K = B22 d_p0 w K := by kernel_rfl
theorem c22 {d_p0 : Value} {w : World} {K : Value → World → Prop} (h : B22 d_p0 w K) : Calls prog 22 #[d_p0] w (Ret K) :=
  denFn_calls Tryz.func22 T22_ok (Eq.mpr (B22_eq d_p0 w K) h)

-- 108 math/bits.Len64
def T108 : Ann := (.seq .none (.meet 125 [0, 2] (.seq .none (.seq (.seq .none .none) .none)) (.meet 8069 [0, 2] (.seq .none (.seq (.seq .none .none) .none)) (.meet 516101 [0, 2] (.seq .none (.seq (.seq .none .none) .none)) (.seq .none .none)))))
theorem T108_ok : chkFn prog Tryz.f108 T108 = true := by kernel_rfl
def B108 (x_p0 : Value) (w : World) (K : Value → World → Prop) : Prop :=
  jn (fun σ w => pop σ fun x_0 σ => pop σ fun n_1 σ => fin σ <|
    jn (fun σ w => pop σ fun x_2 σ => pop σ fun n_3 σ => fin σ <|
      jn (fun σ w => pop σ fun x_4 σ => pop σ fun n_5 σ => fin σ <|
        pvv prog (convert 151 5 x_4) w fun t_6 w =>
        pvv prog (Instr.index 9 (.string ⟨#[0, 1, 2, 2, 3, 3, 3, 3, 4, 4, 4, 4, 4, 4, 4, 4, 5, 5, 5, 5, 5, 5, 5, 5, 5, 5, 5, 5, 5, 5, 5, 5, 6, 6, 6, 6, 6, 6, 6, 6, 6, 6, 6, 6, 6, 6, 6, 6, 6, 6, 6, 6, 6, 6, 6, 6, 6, 6, 6, 6, 6, 6, 6, 6, 7, 7, 7, 7, 7, 7, 7, 7, 7, 7, 7, 7, 7, 7, 7, 7, 7, 7, 7, 7, 7, 7, 7, 7, 7, 7, 7, 7, 7, 7, 7, 7, 7, 7, 7, 7, 7, 7, 7, 7, 7, 7, 7, 7, 7, 7, 7, 7, 7, 7, 7, 7, 7, 7, 7, 7, 7, 7, 7, 7, 7, 7, 7, 7, 8, 8, 8, 8, 8, 8, 8, 8, 8, 8, 8, 8, 8, 8, 8, 8, 8, 8, 8, 8, 8, 8, 8, 8, 8, 8, 8, 8, 8, 8, 8, 8, 8, 8, 8, 8, 8, 8, 8, 8, 8, 8, 8, 8, 8, 8, 8, 8, 8, 8, 8, 8, 8, 8, 8, 8, 8, 8, 8, 8, 8, 8, 8, 8, 8, 8, 8, 8, 8, 8, 8, 8, 8, 8, 8, 8, 8, 8, 8, 8, 8, 8, 8, 8, 8, 8, 8, 8, 8, 8, 8, 8, 8, 8, 8, 8, 8, 8, 8, 8, 8, 8, 8, 8, 8, 8, 8, 8, 8, 8, 8, 8, 8, 8, 8, 8, 8, 8, 8, 8, 8, 8, 8, 8, 8, 8, 8, 8]⟩) t_6) w fun t_7 w =>
        pvv prog (convert 5 3 t_7) w fun t_8 w =>
        pvv prog (binOp .add 3 n_5 t_8) w fun t_9 w =>
        K t_9 w) fun k_10 =>
      pvv prog (binOp .geq 151 x_2 (.int .u64 256)) w fun t_11 w =>
      cd t_11 (
        pvv prog (binOp .shr 151 x_2 (.int .u64 8)) w fun t_12 w =>
        pvv prog (binOp .add 3 n_3 (.int .i64 8)) w fun t_13 w =>
        k_10 [t_12, t_13] w) <|
      k_10 [x_2, n_3] w) fun k_14 =>
    pvv prog (binOp .geq 151 x_0 (.int .u64 65536)) w fun t_15 w =>
    cd t_15 (
      pvv prog (binOp .shr 151 x_0 (.int .u64 16)) w fun t_16 w =>
      pvv prog (binOp .add 3 n_1 (.int .i64 16)) w fun t_17 w =>
      k_14 [t_16, t_17] w) <|
    k_14 [x_0, n_1] w) fun k_18 =>
  pvv prog (binOp .geq 151 x_p0 (.int .u64 4294967296)) w fun t_19 w =>
  cd t_19 (
    pvv prog (binOp .shr 151 x_p0 (.int .u64 32)) w fun t_20 w =>
    k_18 [t_20, (.int .i64 32)] w) <|
  k_18 [x_p0, (.int .i64 0)] w
theorem B108_eq (x_p0 : Value) (w : World) (K : Value → World → Prop) : denFn prog Tryz.f108 T108 [x_p0] w K = B108 x_p0 w K := by kernel_rfl
theorem c108 {x_p0 : Value} {w : World} {K : Value → World → Prop} (h : B108 x_p0 w K) : Calls prog 108 #[x_p0] w (Ret K) :=
  denFn_calls Tryz.func108 T108_ok (Eq.mpr (B108_eq x_p0 w K) h)

-- 88 (*holdfast/holdfastref01.Disk).at
def T88 : Ann := (.seq .none (.seq .none (.seq (.seq .none (.block (.loop 68719472704 [6] (.seq (.seq .none (.seq .none .none)) (.seq (.block (.draw [.op 0 .pure, .op 1 .pure, .op 2 .pure, .op 3 .pure, .op 5 .pure, .op 9 .pure, .op 10 .pure, .op 11 .pure, .op 13 .pure, .op 4 .load, .op 6 .pure, .op 7 .pure, .op 8 .load, .op 12 .load, .op 14 .pure, .op 15 .pure, .op 16 .load, .op 17 .eff, .op 18 .pure, .op 19 .eff])) .none))))) (.seq .none .none))))
theorem T88_ok : chkFn prog Tryz.f88 T88 = true := by kernel_rfl
def B88 (d_p0 k_p1 : Value) (w : World) (K : Value → World → Prop) : Prop :=
  pv prog (oNil d_p0) w fun t_0 w =>
  pvv prog (Instr.fieldAt 105 t_0 0) w fun t_1 w =>
  ldv prog (Instr.loadAt 32 t_1) w fun t_2 w =>
  Calls prog 87 #[t_2] w (Ret fun t_3 w =>
  lp (fun σ w again_5 => pop σ fun i_4 σ => fin σ <|
    pvv prog (binOp .lss 3 i_4 k_p1) w fun t_6 w =>
    cd t_6 (
      dr w fun w =>
      pv prog (oNil d_p0) w fun t_7 w =>
      pvv prog (Instr.fieldAt 105 t_7 1) w fun t_8 w =>
      pv prog (oNil d_p0) w fun t_9 w =>
      pvv prog (Instr.fieldAt 105 t_9 1) w fun t_10 w =>
      bindS (vN (Instr.loadAt 103 t_8)) fun m_12 => ldv prog (Instr.loadAt 103 t_8) w fun t_11 w =>
      pvv prog (Instr.indexAt 103 t_11 i_4) w fun t_13 w =>
      pvv prog (Instr.fieldAt 132 t_13 0) w fun t_14 w =>
      bindS (vN (Instr.loadAt 3 t_14)) fun m_16 => ldv prog (Instr.loadAt 3 t_14) w fun t_15 w =>
      bindS (vN (Instr.loadAt 103 t_10)) fun m_18 => ldv prog (Instr.loadAt 103 t_10) w fun t_17 w =>
      pvv prog (Instr.indexAt 103 t_17 i_4) w fun t_19 w =>
      pvv prog (Instr.fieldAt 132 t_19 1) w fun t_20 w =>
      bindS (vN (Instr.loadAt 60 t_20)) fun m_22 => ldv prog (Instr.loadAt 60 t_20) w fun t_21 w =>
      Calls prog 90 #[t_21] w (Ret fun t_23 w => stay prog none m_18 t_17 w <| stay prog none m_16 t_15 w <| stay prog none m_12 t_11 w <| 
      pvv prog (Instr.indexAt 32 t_3 t_15) w fun t_24 w =>
      efu prog (Instr.storeAt 60 t_24 t_23) w fun u_25 w =>
      pvv prog (binOp .add 3 i_4 (.int .i64 1)) w fun t_26 w =>
      again_5 [t_26] w)) <|
    K t_3 w) [(.int .i64 0)] w)
theorem B88_eq (d_p0 k_p1 : Value) (w : World) (K : Value → World → Prop) : denFn prog Tryz.f88 T88 [d_p0, k_p1] w K = B88 d_p0 k_p1 w K := by kernel_rfl
theorem c88 {d_p0 k_p1 : Value} {w : World} {K : Value → World → Prop} (h : B88 d_p0 k_p1 w K) : Calls prog 88 #[d_p0, k_p1] w (Ret K) :=
  denFn_calls Tryz.func88 T88_ok (Eq.mpr (B88_eq d_p0 k_p1 w K) h)

-- 59 holdfast/holdfastref01.Load
def T59 : Ann := (.seq .none (.seq (.seq .none (.seq (.seq .none .none) .none)) (.seq (.seq .none (.block (.loop 33546268 [4] (.seq (.seq .none (.seq .none .none)) (.seq (.block (.seq .none (.seq (.seq .none .none) .none))) .none))))) (.seq .none .none))))
theorem T59_ok : chkFn prog Tryz.f59 T59 = true := by kernel_rfl
def B59 (image_p0 : Value) (w : World) (K : Value → World → Prop) : Prop :=
  pv prog (oBi .len #[32] 3 #[false] #[image_p0]) w fun t_0 w =>
  pvv prog (binOp .lss 3 t_0 (.int .i64 1)) w fun t_1 w =>
  gate (some (t_1, false)) (fun K => K image_p0 w) w fun t_2 w =>
  gate (some (t_1, false)) (fun K => pv prog (oBi .len #[32] 3 #[false] #[t_2]) w K) w fun t_3 w =>
  gate (some (t_1, false)) (fun K => pvv prog (binOp .gtr 3 t_3 (.int .i64 1024)) w K) w fun t_4 w =>
  pv prog (oPick t_1 (.bool true) t_4) w fun t_5 w =>
  cd t_5 (
    K (.tuple #[(.pointer none), (.int .i64 2)]) w) <|
  lp (fun σ w again_7 => pop σ fun i_6 σ => fin σ <|
    pv prog (oBi .len #[32] 3 #[false] #[image_p0]) w fun t_8 w =>
    pvv prog (binOp .lss 3 i_6 t_8) w fun t_9 w =>
    cd t_9 (
      pvv prog (Instr.indexAt 32 image_p0 i_6) w fun t_10 w =>
      ldv prog (Instr.loadAt 60 t_10) w fun t_11 w =>
      pv prog (oBi .len #[60] 3 #[false] #[t_11]) w fun t_12 w =>
      pvv prog (oEq .neq 3 (.tmp 23) (.const (.int .i64 256)) t_12 (.int .i64 256)) w fun t_13 w =>
      cd t_13 (
        K (.tuple #[(.pointer none), (.int .i64 3)]) w) <|
      pvv prog (binOp .add 3 i_6 (.int .i64 1)) w fun t_14 w =>
      again_7 [t_14] w) <|
    Calls prog 87 #[image_p0] w (Ret fun t_15 w =>
    pvv prog (Instr.build 105 #[(0, t_15)]) w fun t_16 w =>
    efv prog (Instr.box 105 t_16) w fun t_17 w =>
    K (.tuple #[t_17, (.int .i64 0)]) w)) [(.int .i64 0)] w
theorem B59_eq (image_p0 : Value) (w : World) (K : Value → World → Prop) : denFn prog Tryz.f59 T59 [image_p0] w K = B59 image_p0 w K := by kernel_rfl
theorem c59 {image_p0 : Value} {w : World} {K : Value → World → Prop} (h : B59 image_p0 w K) : Calls prog 59 #[image_p0] w (Ret K) :=
  denFn_calls Tryz.func59 T59_ok (Eq.mpr (B59_eq image_p0 w K) h)

-- 36 (*holdfast/wal.Log).head
def T36 : Ann := (.seq .none (.seq .none (.seq (.draw [.op 0 .pure, .op 1 .pure, .op 2 .pure, .op 3 .pure, .op 4 .pure, .op 5 .load, .op 6 .eff]) (.seq (.draw [.op 0 .pure, .op 1 .pure, .op 2 .pure, .op 3 .pure, .op 4 .pure, .op 5 .load, .op 6 .eff]) .none))))
theorem T36_ok : chkFn prog Tryz.f36 T36 = true := by kernel_rfl
def B36 (l_p0 : Value) (w : World) (K : Value → World → Prop) : Prop :=
  efv prog (Instr.makeSlice 60 (.int .i64 256) (.int .i64 256)) w fun t_0 w =>
  pvv prog (Instr.indexAt 60 t_0 (.int .i64 0)) w fun t_1 w =>
  efu prog (Instr.storeAt 5 t_1 (.int .u8 72)) w fun u_2 w =>
  pvv prog (Instr.indexAt 60 t_0 (.int .i64 1)) w fun t_3 w =>
  efu prog (Instr.storeAt 5 t_3 (.int .u8 70)) w fun u_4 w =>
  dr w fun w =>
  pvv prog (Instr.sliceAt 60 t_0 (some (.int .i64 2)) (some (.int .i64 10)) none) w fun t_5 w =>
  pv prog (oNil l_p0) w fun t_6 w =>
  pvv prog (Instr.fieldAt 70 t_6 2) w fun t_7 w =>
  bindS (vN (Instr.loadAt 3 t_7)) fun m_9 => ldv prog (Instr.loadAt 3 t_7) w fun t_8 w =>
  Calls prog 54 #[t_5, t_8] w (Ret fun t_10 w =>
  dr w fun w =>
  pvv prog (Instr.sliceAt 60 t_0 (some (.int .i64 10)) (some (.int .i64 12)) none) w fun t_11 w =>
  pv prog (oNil l_p0) w fun t_12 w =>
  pvv prog (Instr.fieldAt 70 t_12 3) w fun t_13 w =>
  bindS (vN (Instr.loadAt 3 t_13)) fun m_15 => ldv prog (Instr.loadAt 3 t_13) w fun t_14 w =>
  Calls prog 54 #[t_11, t_14] w (Ret fun t_16 w =>
  pv prog (oNil l_p0) w fun t_17 w =>
  pvv prog (Instr.fieldAt 70 t_17 0) w fun t_18 w =>
  pvv prog (Instr.fieldAt 67 t_18 0) w fun t_19 w =>
  ldv prog (Instr.loadAt 42 t_19) w fun t_20 w =>
  Calls prog 35 #[t_20, (.int .i64 0), t_0] w (Ret fun t_21 w =>
  K (.tuple #[]) w)))
theorem B36_eq (l_p0 : Value) (w : World) (K : Value → World → Prop) : denFn prog Tryz.f36 T36 [l_p0] w K = B36 l_p0 w K := by kernel_rfl
theorem c36 {l_p0 : Value} {w : World} {K : Value → World → Prop} (h : B36 l_p0 w K) : Calls prog 36 #[l_p0] w (Ret K) :=
  denFn_calls Tryz.func36 T36_ok (Eq.mpr (B36_eq l_p0 w K) h)

-- 34 (*holdfast/block.Disk).Read
def T34 : Ann := (.seq .none (.seq (.block (.seq .none (.seq (.seq .none .none) (.seq .none (.seq (.seq .none .none) .none))))) (.seq .none .none)))
theorem T34_ok : chkFn prog Tryz.f34 T34 = true := by kernel_rfl
def B34 (d_p0 n_p1 : Value) (w : World) (K : Value → World → Prop) : Prop :=
  pvv prog (oEq .eql 42 (.tmp 7) (.const (.pointer none)) d_p0 (.pointer none)) w fun t_0 w =>
  cd t_0 (
    K (.tuple #[(.slice none 0 0), (.int .i64 1)]) w) <|
  pvv prog (binOp .lss 3 n_p1 (.int .i64 0)) w fun t_1 w =>
  gate (some (t_1, false)) (fun K => K n_p1 w) w fun t_2 w =>
  gate (some (t_1, false)) (fun K => K d_p0 w) w fun t_3 w =>
  gate (some (t_1, false)) (fun K => pv prog (oNil t_3) w K) w fun t_4 w =>
  gate (some (t_1, false)) (fun K => pvv prog (Instr.fieldAt 88 t_4 0) w K) w fun t_5 w =>
  gate (some (t_1, false)) (fun K => ldv prog (Instr.loadAt 32 t_5) w K) w fun t_6 w =>
  gate (some (t_1, false)) (fun K => pv prog (oBi .len #[32] 3 #[false] #[t_6]) w K) w fun t_7 w =>
  gate (some (t_1, false)) (fun K => pvv prog (binOp .geq 3 t_2 t_7) w K) w fun t_8 w =>
  pv prog (oPick t_1 (.bool true) t_8) w fun t_9 w =>
  cd t_9 (
    K (.tuple #[(.slice none 0 0), (.int .i64 2)]) w) <|
  pv prog (oNil d_p0) w fun t_10 w =>
  pvv prog (Instr.fieldAt 88 t_10 0) w fun t_11 w =>
  ldv prog (Instr.loadAt 32 t_11) w fun t_12 w =>
  pvv prog (Instr.indexAt 32 t_12 n_p1) w fun t_13 w =>
  ldv prog (Instr.loadAt 60 t_13) w fun t_14 w =>
  Calls prog 51 #[t_14] w (Ret fun t_15 w =>
  K (.tuple #[t_15, (.int .i64 0)]) w)
theorem B34_eq (d_p0 n_p1 : Value) (w : World) (K : Value → World → Prop) : denFn prog Tryz.f34 T34 [d_p0, n_p1] w K = B34 d_p0 n_p1 w K := by kernel_rfl
theorem c34 {d_p0 n_p1 : Value} {w : World} {K : Value → World → Prop} (h : B34 d_p0 n_p1 w K) : Calls prog 34 #[d_p0, n_p1] w (Ret K) :=
  denFn_calls Tryz.func34 T34_ok (Eq.mpr (B34_eq d_p0 n_p1 w K) h)

-- 19 holdfast/holdfastref01.SameInts
def T19 : Ann := (.seq .none (.seq (.seq .none (.seq (.seq .none .none) .none)) (.seq (.seq .none (.block (.loop 67106864 [5] (.seq (.seq .none (.seq .none .none)) (.seq (.block (.seq (.draw [.op 0 .pure, .op 1 .pure, .op 2 .pure, .op 4 .pure, .op 5 .pure, .op 6 .pure, .op 3 .load, .op 7 .load, .op 8 .pure]) (.seq (.seq .none .none) .none))) .none))))) (.seq .none .none))))
theorem T19_ok : chkFn prog Tryz.f19 T19 = true := by kernel_rfl
def B19 (a_p0 b_p1 : Value) (w : World) (K : Value → World → Prop) : Prop :=
  pv prog (oBi .len #[29] 3 #[false] #[a_p0]) w fun t_0 w =>
  pv prog (oBi .len #[29] 3 #[false] #[b_p1]) w fun t_1 w =>
  pvv prog (oEq .neq 3 (.tmp 7) (.tmp 9) t_0 t_1) w fun t_2 w =>
  cd t_2 (
    K (.bool false) w) <|
  lp (fun σ w again_4 => pop σ fun i_3 σ => fin σ <|
    pv prog (oBi .len #[29] 3 #[false] #[a_p0]) w fun t_5 w =>
    pvv prog (binOp .lss 3 i_3 t_5) w fun t_6 w =>
    cd t_6 (
      dr w fun w =>
      pvv prog (Instr.indexAt 29 a_p0 i_3) w fun t_7 w =>
      pvv prog (Instr.indexAt 29 b_p1 i_3) w fun t_8 w =>
      bindS (vN (Instr.loadAt 3 t_7)) fun m_10 => ldv prog (Instr.loadAt 3 t_7) w fun t_9 w =>
      bindS (vN (Instr.loadAt 3 t_8)) fun m_12 => ldv prog (Instr.loadAt 3 t_8) w fun t_11 w =>
      pvv prog (oEq .neq 3 (.tmp 20) (.tmp 24) t_9 t_11) w fun t_13 w =>
      cd t_13 (
        K (.bool false) w) <|
      pvv prog (binOp .add 3 i_3 (.int .i64 1)) w fun t_14 w =>
      again_4 [t_14] w) <|
    K (.bool true) w) [(.int .i64 0)] w
theorem B19_eq (a_p0 b_p1 : Value) (w : World) (K : Value → World → Prop) : denFn prog Tryz.f19 T19 [a_p0, b_p1] w K = B19 a_p0 b_p1 w K := by kernel_rfl
theorem c19 {a_p0 b_p1 : Value} {w : World} {K : Value → World → Prop} (h : B19 a_p0 b_p1 w K) : Calls prog 19 #[a_p0, b_p1] w (Ret K) :=
  denFn_calls Tryz.func19 T19_ok (Eq.mpr (B19_eq a_p0 b_p1 w K) h)

-- 33 (*holdfast/wal.Log).Pages
def T33 : Ann := (.seq .none (.seq (.seq .none (.seq (.seq .none .none) .none)) (.seq (.draw [.op 0 .pure, .op 1 .pure, .op 2 .pure, .op 3 .pure, .op 6 .pure, .op 7 .pure, .op 8 .pure, .op 4 .load, .op 9 .load, .op 5 .eff, .op 10 .pure, .op 11 .pure, .op 12 .pure]) .none)))
theorem T33_ok : chkFn prog Tryz.f33 T33 = true := by kernel_rfl
def B33 (l_p0 : Value) (w : World) (K : Value → World → Prop) : Prop :=
  pvv prog (oEq .eql 23 (.tmp 3) (.const (.pointer none)) l_p0 (.pointer none)) w fun t_0 w =>
  cd t_0 (
    K (.int .i64 0) w) <|
  dr w fun w =>
  pv prog (oNil l_p0) w fun t_1 w =>
  pvv prog (Instr.fieldAt 70 t_1 0) w fun t_2 w =>
  pvv prog (Instr.fieldAt 67 t_2 0) w fun t_3 w =>
  pv prog (oNil l_p0) w fun t_4 w =>
  pvv prog (Instr.fieldAt 70 t_4 1) w fun t_5 w =>
  bindS (vN (Instr.loadAt 42 t_3)) fun m_7 => ldv prog (Instr.loadAt 42 t_3) w fun t_6 w =>
  bindS (vN (Instr.loadAt 3 t_5)) fun m_9 => ldv prog (Instr.loadAt 3 t_5) w fun t_8 w =>
  Calls prog 40 #[t_6] w (Ret fun t_10 w => stay prog none m_9 t_8 w <| 
  pvv prog (binOp .sub 3 t_10 t_8) w fun t_11 w =>
  pvv prog (binOp .sub 3 t_11 (.int .i64 1)) w fun t_12 w =>
  K t_12 w)
theorem B33_eq (l_p0 : Value) (w : World) (K : Value → World → Prop) : denFn prog Tryz.f33 T33 [l_p0] w K = B33 l_p0 w K := by kernel_rfl
theorem c33 {l_p0 : Value} {w : World} {K : Value → World → Prop} (h : B33 l_p0 w K) : Calls prog 33 #[l_p0] w (Ret K) :=
  denFn_calls Tryz.func33 T33_ok (Eq.mpr (B33_eq l_p0 w K) h)

-- 70 (*holdfast/holdfastref03.Log).Pages
def T70 : Ann := (.seq .none (.seq (.seq .none (.seq (.seq .none .none) .none)) (.seq (.draw [.op 0 .pure, .op 1 .pure, .op 2 .pure, .op 5 .pure, .op 6 .pure, .op 7 .pure, .op 3 .load, .op 8 .load, .op 4 .eff, .op 9 .pure, .op 10 .pure, .op 11 .pure]) .none)))
theorem T70_ok : chkFn prog Tryz.f70 T70 = true := by kernel_rfl
def B70 (l_p0 : Value) (w : World) (K : Value → World → Prop) : Prop :=
  pvv prog (oEq .eql 24 (.tmp 3) (.const (.pointer none)) l_p0 (.pointer none)) w fun t_0 w =>
  cd t_0 (
    K (.int .i64 0) w) <|
  dr w fun w =>
  pv prog (oNil l_p0) w fun t_1 w =>
  pvv prog (Instr.fieldAt 108 t_1 0) w fun t_2 w =>
  pv prog (oNil l_p0) w fun t_3 w =>
  pvv prog (Instr.fieldAt 108 t_3 1) w fun t_4 w =>
  bindS (vN (Instr.loadAt 55 t_2)) fun m_6 => ldv prog (Instr.loadAt 55 t_2) w fun t_5 w =>
  bindS (vN (Instr.loadAt 3 t_4)) fun m_8 => ldv prog (Instr.loadAt 3 t_4) w fun t_7 w =>
  Calls prog 58 #[t_5] w (Ret fun t_9 w => stay prog none m_8 t_7 w <| 
  pvv prog (binOp .sub 3 t_9 t_7) w fun t_10 w =>
  pvv prog (binOp .sub 3 t_10 (.int .i64 1)) w fun t_11 w =>
  K t_11 w)
theorem B70_eq (l_p0 : Value) (w : World) (K : Value → World → Prop) : denFn prog Tryz.f70 T70 [l_p0] w K = B70 l_p0 w K := by kernel_rfl
theorem c70 {l_p0 : Value} {w : World} {K : Value → World → Prop} (h : B70 l_p0 w K) : Calls prog 70 #[l_p0] w (Ret K) :=
  denFn_calls Tryz.func70 T70_ok (Eq.mpr (B70_eq l_p0 w K) h)

-- 87 holdfast/holdfastref01.CopyAll
def T87 : Ann := (.seq .none (.seq .none (.seq (.seq .none (.block (.loop 524280 [3, 4] (.seq (.seq .none (.seq .none .none)) (.seq (.block .none) .none))))) (.seq .none .none))))
theorem T87_ok : chkFn prog Tryz.f87 T87 = true := by kernel_rfl
def B87 (l_p0 : Value) (w : World) (K : Value → World → Prop) : Prop :=
  lp (fun σ w again_2 => pop σ fun out_0 σ => pop σ fun i_1 σ => fin σ <|
    pv prog (oBi .len #[32] 3 #[false] #[l_p0]) w fun t_3 w =>
    pvv prog (binOp .lss 3 i_1 t_3) w fun t_4 w =>
    cd t_4 (
      pvv prog (Instr.indexAt 32 l_p0 i_1) w fun t_5 w =>
      ldv prog (Instr.loadAt 60 t_5) w fun t_6 w =>
      Calls prog 90 #[t_6] w (Ret fun t_7 w =>
      efv prog (Instr.buildSlice 32 1 #[(0, t_7)]) w fun t_8 w =>
      ef prog (oBi .append #[32, 32] 32 #[false, false] #[out_0, t_8]) w fun t_9 w =>
      pvv prog (binOp .add 3 i_1 (.int .i64 1)) w fun t_10 w =>
      again_2 [t_9, t_10] w)) <|
    K out_0 w) [(.slice none 0 0), (.int .i64 0)] w
theorem B87_eq (l_p0 : Value) (w : World) (K : Value → World → Prop) : denFn prog Tryz.f87 T87 [l_p0] w K = B87 l_p0 w K := by kernel_rfl
theorem c87 {l_p0 : Value} {w : World} {K : Value → World → Prop} (h : B87 l_p0 w K) : Calls prog 87 #[l_p0] w (Ret K) :=
  denFn_calls Tryz.func87 T87_ok (Eq.mpr (B87_eq l_p0 w K) h)

-- 13 (*holdfast/wal.Log).Free
def T13 : Ann := (.seq .none (.seq (.seq .none (.seq (.seq .none .none) .none)) (.seq (.draw [.op 0 .pure, .op 1 .pure, .op 2 .pure, .op 4 .pure, .op 5 .pure, .op 6 .pure, .op 3 .load, .op 7 .load, .op 8 .pure, .op 9 .pure]) .none)))
theorem T13_ok : chkFn prog Tryz.f13 T13 = true := by kernel_rfl
def B13 (l_p0 : Value) (w : World) (K : Value → World → Prop) : Prop :=
  pvv prog (oEq .eql 23 (.tmp 3) (.const (.pointer none)) l_p0 (.pointer none)) w fun t_0 w =>
  cd t_0 (
    K (.int .i64 0) w) <|
  dr w fun w =>
  pv prog (oNil l_p0) w fun t_1 w =>
  pvv prog (Instr.fieldAt 70 t_1 1) w fun t_2 w =>
  pv prog (oNil l_p0) w fun t_3 w =>
  pvv prog (Instr.fieldAt 70 t_3 3) w fun t_4 w =>
  bindS (vN (Instr.loadAt 3 t_2)) fun m_6 => ldv prog (Instr.loadAt 3 t_2) w fun t_5 w =>
  bindS (vN (Instr.loadAt 3 t_4)) fun m_8 => ldv prog (Instr.loadAt 3 t_4) w fun t_7 w =>
  pvv prog (binOp .sub 3 t_5 t_7) w fun t_9 w =>
  K t_9 w
theorem B13_eq (l_p0 : Value) (w : World) (K : Value → World → Prop) : denFn prog Tryz.f13 T13 [l_p0] w K = B13 l_p0 w K := by kernel_rfl
theorem c13 {l_p0 : Value} {w : World} {K : Value → World → Prop} (h : B13 l_p0 w K) : Calls prog 13 #[l_p0] w (Ret K) :=
  denFn_calls Tryz.func13 T13_ok (Eq.mpr (B13_eq l_p0 w K) h)

-- 86 maps.Keys[map[int][]byte,int,[]byte]$1
def T86 : Ann := (.seq .none (.block (.loop 16328 [] (.seq .none (.seq (.seq .none .none) (.block (.seq .none (.seq .none (.seq .none .none)))))))))
theorem T86_ok : chkFn prog Tryz.f86 T86 = true := by kernel_rfl
def B86 (yield_p0 x_p1 : Value) (w : World) (K : Value → World → Prop) : Prop :=
  ldv prog (Instr.loadAt 99 x_p1) w fun t_0 w =>
  efv prog (Instr.range 99 t_0) w fun t_1 w =>
  lp (fun σ w again_2 => fin σ <|
    efv prog (Instr.next t_1 false 0) w fun t_3 w =>
    pvv prog (Instr.extract t_3 0) w fun t_4 w =>
    cd t_4 (
      efv prog (Instr.entry t_1) w fun t_5 w =>
      pvv prog (Instr.extract t_5 0) w fun t_6 w =>
      ef prog (oCall yield_p0 #[t_6]) w fun t_7 w =>
      pvv prog (Op.unary .not t_7) w fun t_8 w =>
      cd t_8 (
        K (.tuple #[]) w) <|
      again_2 [] w) <|
    K (.tuple #[]) w) [] w
theorem B86_eq (yield_p0 x_p1 : Value) (w : World) (K : Value → World → Prop) : denFn prog Tryz.f86 T86 [yield_p0, x_p1] w K = B86 yield_p0 x_p1 w K := by kernel_rfl
theorem c86 {yield_p0 x_p1 : Value} {w : World} {K : Value → World → Prop} (h : B86 yield_p0 x_p1 w K) : Calls prog 86 #[yield_p0, x_p1] w (Ret K) :=
  denFn_calls Tryz.func86 T86_ok (Eq.mpr (B86_eq yield_p0 x_p1 w K) h)

-- 104 cmp.Less[int]
def T104 : Ann := (.seq .none (.seq .none .none))
theorem T104_ok : chkFn prog Tryz.f104 T104 = true := by kernel_rfl
def B104 (x_p0 y_p1 : Value) (w : World) (K : Value → World → Prop) : Prop :=
  Calls prog 114 #[x_p0] w (Ret fun t_0 w =>
  gate (some (t_0, true)) (fun K => K y_p1 w) w fun t_1 w =>
  gate (some (t_0, true)) (fun K => Calls prog 114 #[t_1] w (Ret K)) w fun t_2 w =>
  gate (some (t_0, true)) (fun K => pvv prog (Op.unary .not t_2) w K) w fun t_3 w =>
  pv prog (oPick t_0 t_3 (.bool false)) w fun t_4 w =>
  gate (some (t_4, false)) (fun K => K x_p0 w) w fun t_5 w =>
  gate (some (t_4, false)) (fun K => K y_p1 w) w fun t_6 w =>
  gate (some (t_4, false)) (fun K => pvv prog (binOp .lss 3 t_5 t_6) w K) w fun t_7 w =>
  pv prog (oPick t_4 (.bool true) t_7) w fun t_8 w =>
  K t_8 w)
theorem B104_eq (x_p0 y_p1 : Value) (w : World) (K : Value → World → Prop) : denFn prog Tryz.f104 T104 [x_p0, y_p1] w K = B104 x_p0 y_p1 w K := by kernel_rfl
theorem c104 {x_p0 y_p1 : Value} {w : World} {K : Value → World → Prop} (h : B104 x_p0 y_p1 w K) : Calls prog 104 #[x_p0, y_p1] w (Ret K) :=
  denFn_calls Tryz.func104 T104_ok (Eq.mpr (B104_eq x_p0 y_p1 w K) h)

-- 71 holdfast/holdfastref03.Need
def T71 : Ann := (.seq .none (.seq (.seq .none (.seq (.seq .none .none) .none)) (.seq .none .none)))
theorem T71_ok : chkFn prog Tryz.f71 T71 = true := by kernel_rfl
def B71 (pages_p0 : Value) (w : World) (K : Value → World → Prop) : Prop :=
  pvv prog (binOp .lss 3 pages_p0 (.int .i64 1)) w fun t_0 w =>
  gate (some (t_0, false)) (fun K => K pages_p0 w) w fun t_1 w =>
  gate (some (t_0, false)) (fun K => pvv prog (binOp .gtr 3 t_1 (.int .i64 100)) w K) w fun t_2 w =>
  pv prog (oPick t_0 (.bool true) t_2) w fun t_3 w =>
  cd t_3 (
    K (.int .i64 0) w) <|
  pvv prog (binOp .add 3 pages_p0 (.int .i64 1)) w fun t_4 w =>
  K t_4 w
theorem B71_eq (pages_p0 : Value) (w : World) (K : Value → World → Prop) : denFn prog Tryz.f71 T71 [pages_p0] w K = B71 pages_p0 w K := by kernel_rfl
theorem c71 {pages_p0 : Value} {w : World} {K : Value → World → Prop} (h : B71 pages_p0 w K) : Calls prog 71 #[pages_p0] w (Ret K) :=
  denFn_calls Tryz.func71 T71_ok (Eq.mpr (B71_eq pages_p0 w K) h)

-- 42 (*holdfast/block.Disk).Image
def T42 : Ann := (.seq .none (.seq (.seq .none (.seq (.seq .none .none) .none)) (.seq .none .none)))
theorem T42_ok : chkFn prog Tryz.f42 T42 = true := by kernel_rfl
def B42 (d_p0 : Value) (w : World) (K : Value → World → Prop) : Prop :=
  pvv prog (oEq .eql 42 (.tmp 3) (.const (.pointer none)) d_p0 (.pointer none)) w fun t_0 w =>
  cd t_0 (
    K (.slice none 0 0) w) <|
  pv prog (oNil d_p0) w fun t_1 w =>
  pvv prog (Instr.fieldAt 88 t_1 0) w fun t_2 w =>
  ldv prog (Instr.loadAt 32 t_2) w fun t_3 w =>
  Calls prog 49 #[t_3] w (Ret fun t_4 w =>
  K t_4 w)
theorem B42_eq (d_p0 : Value) (w : World) (K : Value → World → Prop) : denFn prog Tryz.f42 T42 [d_p0] w K = B42 d_p0 w K := by kernel_rfl
theorem c42 {d_p0 : Value} {w : World} {K : Value → World → Prop} (h : B42 d_p0 w K) : Calls prog 42 #[d_p0] w (Ret K) :=
  denFn_calls Tryz.func42 T42_ok (Eq.mpr (B42_eq d_p0 w K) h)

-- 81 slices.Clone[[]holdfast/block.write,holdfast/block.write]
def T81 : Ann := (.seq .none (.seq (.seq .none (.seq (.seq .none .none) .none)) (.seq .none .none)))
theorem T81_ok : chkFn prog Tryz.f81 T81 = true := by kernel_rfl
def B81 (s_p0 : Value) (w : World) (K : Value → World → Prop) : Prop :=
  pvv prog (oEq .eql 81 (.tmp 3) (.const (.slice none 0 0)) s_p0 (.slice none 0 0)) w fun t_0 w =>
  cd t_0 (
    K (.slice none 0 0) w) <|
  efv prog (Instr.buildSlice 81 0 #[]) w fun t_1 w =>
  ef prog (oBi .append #[81, 81] 81 #[false, false] #[t_1, s_p0]) w fun t_2 w =>
  K t_2 w
theorem B81_eq (s_p0 : Value) (w : World) (K : Value → World → Prop) : denFn prog Tryz.f81 T81 [s_p0] w K = B81 s_p0 w K := by kernel_rfl
theorem c81 {s_p0 : Value} {w : World} {K : Value → World → Prop} (h : B81 s_p0 w K) : Calls prog 81 #[s_p0] w (Ret K) :=
  denFn_calls Tryz.func81 T81_ok (Eq.mpr (B81_eq s_p0 w K) h)

-- 20 (*holdfast/block.Disk).Count
def T20 : Ann := (.seq .none (.seq (.seq .none (.seq (.seq .none .none) .none)) (.seq .none .none)))
theorem T20_ok : chkFn prog Tryz.f20 T20 = true := by kernel_rfl
def B20 (d_p0 : Value) (w : World) (K : Value → World → Prop) : Prop :=
  pvv prog (oEq .eql 42 (.tmp 3) (.const (.pointer none)) d_p0 (.pointer none)) w fun t_0 w =>
  cd t_0 (
    K (.int .i64 0) w) <|
  pv prog (oNil d_p0) w fun t_1 w =>
  pvv prog (Instr.fieldAt 88 t_1 2) w fun t_2 w =>
  Calls prog 48 #[t_2] w (Ret fun t_3 w =>
  K t_3 w)
theorem B20_eq (d_p0 : Value) (w : World) (K : Value → World → Prop) : denFn prog Tryz.f20 T20 [d_p0] w K = B20 d_p0 w K := by kernel_rfl
theorem c20 {d_p0 : Value} {w : World} {K : Value → World → Prop} (h : B20 d_p0 w K) : Calls prog 20 #[d_p0] w (Ret K) :=
  denFn_calls Tryz.func20 T20_ok (Eq.mpr (B20_eq d_p0 w K) h)

-- 74 slices.Sort[[]int,int]
def T74 : Ann := (.seq .none .none)
theorem T74_ok : chkFn prog Tryz.f74 T74 = true := by kernel_rfl
def B74 (x_p0 : Value) (w : World) (K : Value → World → Prop) : Prop :=
  pv prog (oBi .len #[29] 3 #[false] #[x_p0]) w fun t_0 w =>
  pvv prog (convert 3 111 t_0) w fun t_1 w =>
  Calls prog 94 #[t_1] w (Ret fun t_2 w =>
  Calls prog 93 #[x_p0, (.int .i64 0), t_0, t_2] w (Ret fun t_3 w =>
  K (.tuple #[]) w))
theorem B74_eq (x_p0 : Value) (w : World) (K : Value → World → Prop) : denFn prog Tryz.f74 T74 [x_p0] w K = B74 x_p0 w K := by kernel_rfl
theorem c74 {x_p0 : Value} {w : World} {K : Value → World → Prop} (h : B74 x_p0 w K) : Calls prog 74 #[x_p0] w (Ret K) :=
  denFn_calls Tryz.func74 T74_ok (Eq.mpr (B74_eq x_p0 w K) h)

-- 82 (*sync/atomic.Int64).Store
def T82 : Ann := .none
theorem T82_ok : chkFn prog Tryz.f82 T82 = true := by kernel_rfl
def B82 (x_p0 val_p1 : Value) (w : World) (K : Value → World → Prop) : Prop :=
  pv prog (oNil x_p0) w fun t_0 w =>
  pvv prog (Instr.fieldAt 86 t_0 2) w fun t_1 w =>
  ef prog (oCall (.func (.func 97) #[] #[]) #[t_1, val_p1]) w fun t_2 w =>
  K (.tuple #[]) w
theorem B82_eq (x_p0 val_p1 : Value) (w : World) (K : Value → World → Prop) : denFn prog Tryz.f82 T82 [x_p0, val_p1] w K = B82 x_p0 val_p1 w K := by kernel_rfl
theorem c82 {x_p0 val_p1 : Value} {w : World} {K : Value → World → Prop} (h : B82 x_p0 val_p1 w K) : Calls prog 82 #[x_p0, val_p1] w (Ret K) :=
  denFn_calls Tryz.func82 T82_ok (Eq.mpr (B82_eq x_p0 val_p1 w K) h)

-- 50 slices.Backward[[]holdfast/block.write,holdfast/block.write]
def T50 : Ann := (.seq .none (.seq .none .none))
theorem T50_ok : chkFn prog Tryz.f50 T50 = true := by kernel_rfl
def B50 (s_p0 : Value) (w : World) (K : Value → World → Prop) : Prop :=
  efv prog (Instr.box 81 s_p0) w fun s_0 w =>
  pvv prog (Instr.makeFunc (.func 84) #[] #[s_0]) w fun t_1 w =>
  K t_1 w
theorem B50_eq (s_p0 : Value) (w : World) (K : Value → World → Prop) : denFn prog Tryz.f50 T50 [s_p0] w K = B50 s_p0 w K := by kernel_rfl
theorem c50 {s_p0 : Value} {w : World} {K : Value → World → Prop} (h : B50 s_p0 w K) : Calls prog 50 #[s_p0] w (Ret K) :=
  denFn_calls Tryz.func50 T50_ok (Eq.mpr (B50_eq s_p0 w K) h)

-- 43 holdfast/wal.zeros
def T43 : Ann := (.seq .none (.seq .none .none))
theorem T43_ok : chkFn prog Tryz.f43 T43 = true := by kernel_rfl
def B43 (b_p0 : Value) (w : World) (K : Value → World → Prop) : Prop :=
  Calls prog 78 #[b_p0, (.func (.func 79) #[] #[])] w (Ret fun t_0 w =>
  pvv prog (Op.unary .not t_0) w fun t_1 w =>
  K t_1 w)
theorem B43_eq (b_p0 : Value) (w : World) (K : Value → World → Prop) : denFn prog Tryz.f43 T43 [b_p0] w K = B43 b_p0 w K := by kernel_rfl
theorem c43 {b_p0 : Value} {w : World} {K : Value → World → Prop} (h : B43 b_p0 w K) : Calls prog 43 #[b_p0] w (Ret K) :=
  denFn_calls Tryz.func43 T43_ok (Eq.mpr (B43_eq b_p0 w K) h)

-- 73 slices.Collect[int]
def T73 : Ann := (.seq .none (.seq .none .none))
theorem T73_ok : chkFn prog Tryz.f73 T73 = true := by kernel_rfl
def B73 (seq_p0 : Value) (w : World) (K : Value → World → Prop) : Prop :=
  Calls prog 92 #[(.slice none 0 0), seq_p0] w (Ret fun t_0 w =>
  K t_0 w)
theorem B73_eq (seq_p0 : Value) (w : World) (K : Value → World → Prop) : denFn prog Tryz.f73 T73 [seq_p0] w K = B73 seq_p0 w K := by kernel_rfl
theorem c73 {seq_p0 : Value} {w : World} {K : Value → World → Prop} (h : B73 seq_p0 w K) : Calls prog 73 #[seq_p0] w (Ret K) :=
  denFn_calls Tryz.func73 T73_ok (Eq.mpr (B73_eq seq_p0 w K) h)


end Go.Proofs.YtgkeplodfkmnlaaGreat
