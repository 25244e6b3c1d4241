import Derived.Test.YtgkeplodfkmnlaaPI
set_option linter.all false
set_option maxRecDepth 100000
namespace Go.Proofs.Ytgkeplodfkmnlaa
open Go Hold
-- 101 slices.partitionOrdered[int]
def T101 : Ann := (.seq .none (.seq (.draw [.op 0 .pure, .op 1 .pure, .op 2 .pure, .op 3 .pure, .op 4 .pure, .op 5 .pure, .op 6 .pure, .op 8 .pure, .op 9 .pure, .op 10 .pure, .op 7 .load, .op 11 .load, .op 12 .pure, .op 13 .eff, .op 14 .pure, .op 15 .eff]) (.seq .none (.seq (.block (.loop 70367670436864 [10] (.seq (.seq (.draw [.op 0 .pure, .op 1 .pure, .op 2 .pure, .op 3 .pure, .op 4 .pure, .op 5 .pure, .op 6 .pure, .op 8 .pure, .op 9 .pure, .op 10 .pure, .op 7 .load, .op 11 .load, .op 12 .eff, .op 13 .pure]) (.seq .none .none)) (.block .none)))) (.seq (.block (.loop 9223301668110600192 [11] (.seq (.seq (.draw [.op 0 .pure, .op 1 .pure, .op 2 .pure, .op 3 .pure, .op 4 .pure, .op 5 .pure, .op 6 .pure, .op 8 .pure, .op 9 .pure, .op 10 .pure, .op 7 .load, .op 11 .load, .op 12 .eff, .op 13 .pure, .op 14 .pure]) (.seq .none .none)) (.block .none)))) (.seq (.seq .none (.seq (.seq (.draw [.op 0 .pure, .op 1 .pure, .op 2 .pure, .op 3 .pure, .op 4 .pure, .op 5 .pure, .op 6 .pure, .op 8 .pure, .op 9 .pure, .op 10 .pure, .op 7 .load, .op 11 .load, .op 12 .pure, .op 13 .eff, .op 14 .pure, .op 15 .eff]) (.seq .none .none)) .none)) (.seq (.draw [.op 0 .pure, .op 1 .pure, .op 2 .pure, .op 3 .pure, .op 4 .pure, .op 5 .pure, .op 6 .pure, .op 8 .pure, .op 9 .pure, .op 10 .pure, .op 7 .load, .op 11 .load, .op 12 .pure, .op 13 .eff, .op 14 .pure, .op 15 .eff]) (.seq .none (.seq .none (.seq (.block (.loop 11417981541647678414640987641481260342710373376 [10, 11] (.block (.seq (.block (.loop 41537741042978506913543222282159104 [10] (.seq (.seq (.draw [.op 0 .pure, .op 1 .pure, .op 2 .pure, .op 3 .pure, .op 4 .pure, .op 5 .pure, .op 6 .pure, .op 8 .pure, .op 9 .pure, .op 10 .pure, .op 7 .load, .op 11 .load, .op 12 .eff, .op 13 .pure]) (.seq .none .none)) (.block .none)))) (.seq (.block (.loop 5444476332360147136792965474937657624576 [11] (.seq (.seq (.draw [.op 0 .pure, .op 1 .pure, .op 2 .pure, .op 3 .pure, .op 4 .pure, .op 5 .pure, .op 6 .pure, .op 8 .pure, .op 9 .pure, .op 10 .pure, .op 7 .load, .op 11 .load, .op 12 .eff, .op 13 .pure, .op 14 .pure]) (.seq .none .none)) (.block .none)))) (.seq (.seq .none (.seq .none .none)) (.seq (.draw [.op 0 .pure, .op 1 .pure, .op 2 .pure, .op 3 .pure, .op 4 .pure, .op 5 .pure, .op 6 .pure, .op 8 .pure, .op 9 .pure, .op 10 .pure, .op 7 .load, .op 11 .load, .op 12 .pure, .op 13 .eff, .op 14 .pure, .op 15 .eff]) (.seq .none .none)))))))) (.seq (.draw [.op 0 .pure, .op 1 .pure, .op 2 .pure, .op 3 .pure, .op 4 .pure, .op 5 .pure, .op 6 .pure, .op 8 .pure, .op 9 .pure, .op 10 .pure, .op 7 .load, .op 11 .load, .op 12 .pure, .op 13 .eff, .op 14 .pure, .op 15 .eff]) (.seq .none .none))))))))))))
theorem T101_ok : chkFn prog Try.f101 T101 = true := by kernel_rfl
def B101 (data_p0 a_p1 b_p2 pivot_p3 : Value) (w : World) (K : Value → World → Prop) : Prop :=
  dr w fun w =>
  pvv prog (Instr.indexAt 29 data_p0 pivot_p3) w fun t_0 w =>
  pvv prog (Instr.indexAt 29 data_p0 a_p1) w fun t_1 w =>
  bindS (vN (Instr.loadAt 3 t_0)) fun m_3 => ldv prog (Instr.loadAt 3 t_0) w fun t_2 w =>
  bindS (vN (Instr.loadAt 3 t_1)) fun m_5 => ldv prog (Instr.loadAt 3 t_1) w fun t_4 w =>
  pvv prog (Instr.indexAt 29 data_p0 a_p1) w fun t_6 w =>
  efu prog (Instr.storeAt 3 t_6 t_2) w fun u_7 w =>
  pvv prog (Instr.indexAt 29 data_p0 pivot_p3) w fun t_8 w =>
  efu prog (Instr.storeAt 3 t_8 t_4) w fun u_9 w =>
  pvv prog (binOp .add 3 a_p1 (.int .i64 1)) w fun t_10 w =>
  pvv prog (binOp .sub 3 b_p2 (.int .i64 1)) w fun t_11 w =>
  lp (fun σ w again_13 => pop σ fun i_12 σ => fin σ <|
    dr w fun w =>
    pvv prog (binOp .leq 3 i_12 t_11) w fun t_14 w =>
    gate (some (t_14, true)) (fun K => K data_p0 w) w fun t_15 w =>
    gate (some (t_14, true)) (fun K => K i_12 w) w fun t_16 w =>
    gate (some (t_14, true)) (fun K => pvv prog (Instr.indexAt 29 t_15 t_16) w K) w fun t_17 w =>
    gate (some (t_14, true)) (fun K => K data_p0 w) w fun t_18 w =>
    gate (some (t_14, true)) (fun K => K a_p1 w) w fun t_19 w =>
    gate (some (t_14, true)) (fun K => pvv prog (Instr.indexAt 29 t_18 t_19) w K) w fun t_20 w =>
    bindS (vN (Instr.loadAt 3 t_17)) fun m_22 => gate (some (t_14, true)) (fun K => ldv prog (Instr.loadAt 3 t_17) w K) w fun t_21 w =>
    bindS (vN (Instr.loadAt 3 t_20)) fun m_24 => gate (some (t_14, true)) (fun K => ldv prog (Instr.loadAt 3 t_20) w K) w fun t_23 w =>
    gate (some (t_14, true)) (fun K => Calls prog 99 #[t_21, t_23] w (Ret fun s_138 w => K s_138 w)) w fun t_25 w =>
    pv prog (oPick t_14 t_25 (.bool false)) w fun t_26 w =>
    cd t_26 (
      pvv prog (binOp .add 3 i_12 (.int .i64 1)) w fun t_27 w =>
      again_13 [t_27] w) <|
    lp (fun σ w again_29 => pop σ fun j_28 σ => fin σ <|
      dr w fun w =>
      pvv prog (binOp .leq 3 i_12 j_28) w fun t_30 w =>
      gate (some (t_30, true)) (fun K => K data_p0 w) w fun t_31 w =>
      gate (some (t_30, true)) (fun K => K j_28 w) w fun t_32 w =>
      gate (some (t_30, true)) (fun K => pvv prog (Instr.indexAt 29 t_31 t_32) w K) w fun t_33 w =>
      gate (some (t_30, true)) (fun K => K data_p0 w) w fun t_34 w =>
      gate (some (t_30, true)) (fun K => K a_p1 w) w fun t_35 w =>
      gate (some (t_30, true)) (fun K => pvv prog (Instr.indexAt 29 t_34 t_35) w K) w fun t_36 w =>
      bindS (vN (Instr.loadAt 3 t_33)) fun m_38 => gate (some (t_30, true)) (fun K => ldv prog (Instr.loadAt 3 t_33) w K) w fun t_37 w =>
      bindS (vN (Instr.loadAt 3 t_36)) fun m_40 => gate (some (t_30, true)) (fun K => ldv prog (Instr.loadAt 3 t_36) w K) w fun t_39 w =>
      gate (some (t_30, true)) (fun K => Calls prog 99 #[t_37, t_39] w (Ret fun s_137 w => K s_137 w)) w fun t_41 w =>
      gate (some (t_30, true)) (fun K => pvv prog (Op.unary .not t_41) w K) w fun t_42 w =>
      pv prog (oPick t_30 t_42 (.bool false)) w fun t_43 w =>
      cd t_43 (
        pvv prog (binOp .sub 3 j_28 (.int .i64 1)) w fun t_44 w =>
        again_29 [t_44] w) <|
      pvv prog (binOp .gtr 3 i_12 j_28) w fun t_45 w =>
      cd t_45 (
        dr w fun w =>
        pvv prog (Instr.indexAt 29 data_p0 a_p1) w fun t_46 w =>
        pvv prog (Instr.indexAt 29 data_p0 j_28) w fun t_47 w =>
        bindS (vN (Instr.loadAt 3 t_46)) fun m_49 => ldv prog (Instr.loadAt 3 t_46) w fun t_48 w =>
        bindS (vN (Instr.loadAt 3 t_47)) fun m_51 => ldv prog (Instr.loadAt 3 t_47) w fun t_50 w =>
        pvv prog (Instr.indexAt 29 data_p0 j_28) w fun t_52 w =>
        efu prog (Instr.storeAt 3 t_52 t_48) w fun u_53 w =>
        pvv prog (Instr.indexAt 29 data_p0 a_p1) w fun t_54 w =>
        efu prog (Instr.storeAt 3 t_54 t_50) w fun u_55 w =>
        K (.tuple #[j_28, (.bool true)]) w) <|
      dr w fun w =>
      pvv prog (Instr.indexAt 29 data_p0 j_28) w fun t_58 w =>
      pvv prog (Instr.indexAt 29 data_p0 i_12) w fun t_59 w =>
      bindS (vN (Instr.loadAt 3 t_58)) fun m_61 => ldv prog (Instr.loadAt 3 t_58) w fun t_60 w =>
      bindS (vN (Instr.loadAt 3 t_59)) fun m_63 => ldv prog (Instr.loadAt 3 t_59) w fun t_62 w =>
      pvv prog (Instr.indexAt 29 data_p0 i_12) w fun t_64 w =>
      efu prog (Instr.storeAt 3 t_64 t_60) w fun u_65 w =>
      pvv prog (Instr.indexAt 29 data_p0 j_28) w fun t_66 w =>
      efu prog (Instr.storeAt 3 t_66 t_62) w fun u_67 w =>
      pvv prog (binOp .add 3 i_12 (.int .i64 1)) w fun t_68 w =>
      pvv prog (binOp .sub 3 j_28 (.int .i64 1)) w fun t_69 w =>
      lp (fun σ w again_72 => pop σ fun i_70 σ => pop σ fun j_71 σ => fin σ <|
        lp (fun σ w again_74 => pop σ fun i_73 σ => fin σ <|
          dr w fun w =>
          pvv prog (binOp .leq 3 i_73 j_71) w fun t_75 w =>
          gate (some (t_75, true)) (fun K => K data_p0 w) w fun t_76 w =>
          gate (some (t_75, true)) (fun K => K i_73 w) w fun t_77 w =>
          gate (some (t_75, true)) (fun K => pvv prog (Instr.indexAt 29 t_76 t_77) w K) w fun t_78 w =>
          gate (some (t_75, true)) (fun K => K data_p0 w) w fun t_79 w =>
          gate (some (t_75, true)) (fun K => K a_p1 w) w fun t_80 w =>
          gate (some (t_75, true)) (fun K => pvv prog (Instr.indexAt 29 t_79 t_80) w K) w fun t_81 w =>
          bindS (vN (Instr.loadAt 3 t_78)) fun m_83 => gate (some (t_75, true)) (fun K => ldv prog (Instr.loadAt 3 t_78) w K) w fun t_82 w =>
          bindS (vN (Instr.loadAt 3 t_81)) fun m_85 => gate (some (t_75, true)) (fun K => ldv prog (Instr.loadAt 3 t_81) w K) w fun t_84 w =>
          gate (some (t_75, true)) (fun K => Calls prog 99 #[t_82, t_84] w (Ret fun s_134 w => K s_134 w)) w fun t_86 w =>
          pv prog (oPick t_75 t_86 (.bool false)) w fun t_87 w =>
          cd t_87 (
            pvv prog (binOp .add 3 i_73 (.int .i64 1)) w fun t_88 w =>
            again_74 [t_88] w) <|
          lp (fun σ w again_90 => pop σ fun j_89 σ => fin σ <|
            dr w fun w =>
            pvv prog (binOp .leq 3 i_73 j_89) w fun t_91 w =>
            gate (some (t_91, true)) (fun K => K data_p0 w) w fun t_92 w =>
            gate (some (t_91, true)) (fun K => K j_89 w) w fun t_93 w =>
            gate (some (t_91, true)) (fun K => pvv prog (Instr.indexAt 29 t_92 t_93) w K) w fun t_94 w =>
            gate (some (t_91, true)) (fun K => K data_p0 w) w fun t_95 w =>
            gate (some (t_91, true)) (fun K => K a_p1 w) w fun t_96 w =>
            gate (some (t_91, true)) (fun K => pvv prog (Instr.indexAt 29 t_95 t_96) w K) w fun t_97 w =>
            bindS (vN (Instr.loadAt 3 t_94)) fun m_99 => gate (some (t_91, true)) (fun K => ldv prog (Instr.loadAt 3 t_94) w K) w fun t_98 w =>
            bindS (vN (Instr.loadAt 3 t_97)) fun m_101 => gate (some (t_91, true)) (fun K => ldv prog (Instr.loadAt 3 t_97) w K) w fun t_100 w =>
            gate (some (t_91, true)) (fun K => Calls prog 99 #[t_98, t_100] w (Ret fun s_133 w => K s_133 w)) w fun t_102 w =>
            gate (some (t_91, true)) (fun K => pvv prog (Op.unary .not t_102) w K) w fun t_103 w =>
            pv prog (oPick t_91 t_103 (.bool false)) w fun t_104 w =>
            cd t_104 (
              pvv prog (binOp .sub 3 j_89 (.int .i64 1)) w fun t_105 w =>
              again_90 [t_105] w) <|
            pvv prog (binOp .gtr 3 i_73 j_89) w fun t_106 w =>
            cd t_106 (
              dr w fun w =>
              pvv prog (Instr.indexAt 29 data_p0 a_p1) w fun t_107 w =>
              pvv prog (Instr.indexAt 29 data_p0 j_89) w fun t_108 w =>
              bindS (vN (Instr.loadAt 3 t_107)) fun m_110 => ldv prog (Instr.loadAt 3 t_107) w fun t_109 w =>
              bindS (vN (Instr.loadAt 3 t_108)) fun m_112 => ldv prog (Instr.loadAt 3 t_108) w fun t_111 w =>
              pvv prog (Instr.indexAt 29 data_p0 j_89) w fun t_113 w =>
              efu prog (Instr.storeAt 3 t_113 t_109) w fun u_114 w =>
              pvv prog (Instr.indexAt 29 data_p0 a_p1) w fun t_115 w =>
              efu prog (Instr.storeAt 3 t_115 t_111) w fun u_116 w =>
              K (.tuple #[j_89, (.bool false)]) w) <|
            dr w fun w =>
            pvv prog (Instr.indexAt 29 data_p0 j_89) w fun t_119 w =>
            pvv prog (Instr.indexAt 29 data_p0 i_73) w fun t_120 w =>
            bindS (vN (Instr.loadAt 3 t_119)) fun m_122 => ldv prog (Instr.loadAt 3 t_119) w fun t_121 w =>
            bindS (vN (Instr.loadAt 3 t_120)) fun m_124 => ldv prog (Instr.loadAt 3 t_120) w fun t_123 w =>
            pvv prog (Instr.indexAt 29 data_p0 i_73) w fun t_125 w =>
            efu prog (Instr.storeAt 3 t_125 t_121) w fun u_126 w =>
            pvv prog (Instr.indexAt 29 data_p0 j_89) w fun t_127 w =>
            efu prog (Instr.storeAt 3 t_127 t_123) w fun u_128 w =>
            pvv prog (binOp .add 3 i_73 (.int .i64 1)) w fun t_129 w =>
            pvv prog (binOp .sub 3 j_89 (.int .i64 1)) w fun t_130 w =>
            again_72 [t_129, t_130] w) [j_71] w) [i_70] w) [t_68, t_69] w) [t_11] w) [t_10] w
theorem B101_eq (data_p0 a_p1 b_p2 pivot_p3 : Value) (w : World) (K : Value → World → Prop) : denFn prog Try.f101 T101 [data_p0, a_p1, b_p2, pivot_p3] w K = B101 data_p0 a_p1 b_p2 pivot_p3 w K := by kernel_rfl
theorem c101 {data_p0 a_p1 b_p2 pivot_p3 : Value} {w : World} {K : Value → World → Prop} (h : B101 data_p0 a_p1 b_p2 pivot_p3 w K) : Calls prog 101 #[data_p0, a_p1, b_p2, pivot_p3] w (Ret K) :=
  denFn_calls Try.func101 T101_ok (Eq.mpr (B101_eq data_p0 a_p1 b_p2 pivot_p3 w K) h)

-- 100 slices.partitionEqualOrdered[int]
def T100 : Ann := (.seq .none (.seq (.draw [.op 0 .pure, .op 1 .pure, .op 2 .pure, .op 3 .pure, .op 4 .pure, .op 5 .pure, .op 6 .pure, .op 8 .pure, .op 9 .pure, .op 10 .pure, .op 7 .load, .op 11 .load, .op 12 .pure, .op 13 .eff, .op 14 .pure, .op 15 .eff]) (.seq .none (.seq (.block (.loop 9671406556917032860780032 [9, 10] (.block (.seq (.block (.loop 70368207307264 [9] (.seq (.seq (.draw [.op 0 .pure, .op 1 .pure, .op 2 .pure, .op 3 .pure, .op 4 .pure, .op 5 .pure, .op 6 .pure, .op 8 .pure, .op 9 .pure, .op 10 .pure, .op 7 .load, .op 11 .load, .op 12 .eff, .op 13 .pure, .op 14 .pure]) (.seq .none .none)) (.block .none)))) (.seq (.block (.loop 4611615649683211264 [10] (.seq (.seq (.draw [.op 0 .pure, .op 1 .pure, .op 2 .pure, .op 3 .pure, .op 4 .pure, .op 5 .pure, .op 6 .pure, .op 8 .pure, .op 9 .pure, .op 10 .pure, .op 7 .load, .op 11 .load, .op 12 .eff, .op 13 .pure]) (.seq .none .none)) (.block .none)))) (.seq (.seq .none (.seq .none .none)) (.seq (.draw [.op 0 .pure, .op 1 .pure, .op 2 .pure, .op 3 .pure, .op 4 .pure, .op 5 .pure, .op 6 .pure, .op 8 .pure, .op 9 .pure, .op 10 .pure, .op 7 .load, .op 11 .load, .op 12 .pure, .op 13 .eff, .op 14 .pure, .op 15 .eff]) (.seq .none .none)))))))) (.seq .none .none)))))
theorem T100_ok : chkFn prog Try.f100 T100 = true := by kernel_rfl
def B100 (data_p0 a_p1 b_p2 pivot_p3 : Value) (w : World) (K : Value → World → Prop) : Prop :=
  dr w fun w =>
  pvv prog (Instr.indexAt 29 data_p0 pivot_p3) w fun t_0 w =>
  pvv prog (Instr.indexAt 29 data_p0 a_p1) w fun t_1 w =>
  bindS (vN (Instr.loadAt 3 t_0)) fun m_3 => ldv prog (Instr.loadAt 3 t_0) w fun t_2 w =>
  bindS (vN (Instr.loadAt 3 t_1)) fun m_5 => ldv prog (Instr.loadAt 3 t_1) w fun t_4 w =>
  pvv prog (Instr.indexAt 29 data_p0 a_p1) w fun t_6 w =>
  efu prog (Instr.storeAt 3 t_6 t_2) w fun u_7 w =>
  pvv prog (Instr.indexAt 29 data_p0 pivot_p3) w fun t_8 w =>
  efu prog (Instr.storeAt 3 t_8 t_4) w fun u_9 w =>
  pvv prog (binOp .add 3 a_p1 (.int .i64 1)) w fun t_10 w =>
  pvv prog (binOp .sub 3 b_p2 (.int .i64 1)) w fun t_11 w =>
  lp (fun σ w again_14 => pop σ fun i_12 σ => pop σ fun j_13 σ => fin σ <|
    lp (fun σ w again_16 => pop σ fun i_15 σ => fin σ <|
      dr w fun w =>
      pvv prog (binOp .leq 3 i_15 j_13) w fun t_17 w =>
      gate (some (t_17, true)) (fun K => K data_p0 w) w fun t_18 w =>
      gate (some (t_17, true)) (fun K => K a_p1 w) w fun t_19 w =>
      gate (some (t_17, true)) (fun K => pvv prog (Instr.indexAt 29 t_18 t_19) w K) w fun t_20 w =>
      gate (some (t_17, true)) (fun K => K data_p0 w) w fun t_21 w =>
      gate (some (t_17, true)) (fun K => K i_15 w) w fun t_22 w =>
      gate (some (t_17, true)) (fun K => pvv prog (Instr.indexAt 29 t_21 t_22) w K) w fun t_23 w =>
      bindS (vN (Instr.loadAt 3 t_20)) fun m_25 => gate (some (t_17, true)) (fun K => ldv prog (Instr.loadAt 3 t_20) w K) w fun t_24 w =>
      bindS (vN (Instr.loadAt 3 t_23)) fun m_27 => gate (some (t_17, true)) (fun K => ldv prog (Instr.loadAt 3 t_23) w K) w fun t_26 w =>
      gate (some (t_17, true)) (fun K => Calls prog 99 #[t_24, t_26] w (Ret fun s_64 w => K s_64 w)) w fun t_28 w =>
      gate (some (t_17, true)) (fun K => pvv prog (Op.unary .not t_28) w K) w fun t_29 w =>
      pv prog (oPick t_17 t_29 (.bool false)) w fun t_30 w =>
      cd t_30 (
        pvv prog (binOp .add 3 i_15 (.int .i64 1)) w fun t_31 w =>
        again_16 [t_31] w) <|
      lp (fun σ w again_33 => pop σ fun j_32 σ => fin σ <|
        dr w fun w =>
        pvv prog (binOp .leq 3 i_15 j_32) w fun t_34 w =>
        gate (some (t_34, true)) (fun K => K data_p0 w) w fun t_35 w =>
        gate (some (t_34, true)) (fun K => K a_p1 w) w fun t_36 w =>
        gate (some (t_34, true)) (fun K => pvv prog (Instr.indexAt 29 t_35 t_36) w K) w fun t_37 w =>
        gate (some (t_34, true)) (fun K => K data_p0 w) w fun t_38 w =>
        gate (some (t_34, true)) (fun K => K j_32 w) w fun t_39 w =>
        gate (some (t_34, true)) (fun K => pvv prog (Instr.indexAt 29 t_38 t_39) w K) w fun t_40 w =>
        bindS (vN (Instr.loadAt 3 t_37)) fun m_42 => gate (some (t_34, true)) (fun K => ldv prog (Instr.loadAt 3 t_37) w K) w fun t_41 w =>
        bindS (vN (Instr.loadAt 3 t_40)) fun m_44 => gate (some (t_34, true)) (fun K => ldv prog (Instr.loadAt 3 t_40) w K) w fun t_43 w =>
        gate (some (t_34, true)) (fun K => Calls prog 99 #[t_41, t_43] w (Ret fun s_63 w => K s_63 w)) w fun t_45 w =>
        pv prog (oPick t_34 t_45 (.bool false)) w fun t_46 w =>
        cd t_46 (
          pvv prog (binOp .sub 3 j_32 (.int .i64 1)) w fun t_47 w =>
          again_33 [t_47] w) <|
        pvv prog (binOp .gtr 3 i_15 j_32) w fun t_48 w =>
        cd t_48 (
          K i_15 w) <|
        dr w fun w =>
        pvv prog (Instr.indexAt 29 data_p0 j_32) w fun t_49 w =>
        pvv prog (Instr.indexAt 29 data_p0 i_15) w fun t_50 w =>
        bindS (vN (Instr.loadAt 3 t_49)) fun m_52 => ldv prog (Instr.loadAt 3 t_49) w fun t_51 w =>
        bindS (vN (Instr.loadAt 3 t_50)) fun m_54 => ldv prog (Instr.loadAt 3 t_50) w fun t_53 w =>
        pvv prog (Instr.indexAt 29 data_p0 i_15) w fun t_55 w =>
        efu prog (Instr.storeAt 3 t_55 t_51) w fun u_56 w =>
        pvv prog (Instr.indexAt 29 data_p0 j_32) w fun t_57 w =>
        efu prog (Instr.storeAt 3 t_57 t_53) w fun u_58 w =>
        pvv prog (binOp .add 3 i_15 (.int .i64 1)) w fun t_59 w =>
        pvv prog (binOp .sub 3 j_32 (.int .i64 1)) w fun t_60 w =>
        again_14 [t_59, t_60] w) [j_13] w) [i_12] w) [t_10, t_11] w
theorem B100_eq (data_p0 a_p1 b_p2 pivot_p3 : Value) (w : World) (K : Value → World → Prop) : denFn prog Try.f100 T100 [data_p0, a_p1, b_p2, pivot_p3] w K = B100 data_p0 a_p1 b_p2 pivot_p3 w K := by kernel_rfl
theorem c100 {data_p0 a_p1 b_p2 pivot_p3 : Value} {w : World} {K : Value → World → Prop} (h : B100 data_p0 a_p1 b_p2 pivot_p3 w K) : Calls prog 100 #[data_p0, a_p1, b_p2, pivot_p3] w (Ret K) :=
  denFn_calls Try.func100 T100_ok (Eq.mpr (B100_eq data_p0 a_p1 b_p2 pivot_p3 w K) h)

-- 51 (*holdfast/wal.Log).group
def T51 : Ann := (.seq .none (.seq .none (.seq .none (.seq (.seq .none (.seq (.seq .none .none) .none)) (.seq .none (.seq (.seq .none (.block (.loop 302231454340707340257040 [8, 49] (.seq .none (.seq (.seq .none .none) (.seq (.block (.seq .none (.seq .none (.seq (.seq .none (.seq (.seq .none .none) .none)) (.seq .none .none))))) .none)))))) (.seq .none .none)))))))
theorem T51_ok : chkFn prog Try.f51 T51 = true := by kernel_rfl
def B51 (l_p0 n_p1 : Value) (w : World) (K : Value → World → Prop) : Prop :=
  pv prog (oNil l_p0) w fun t_0 w =>
  pvv prog (Instr.fieldAt 71 t_0 0) w fun t_1 w =>
  pvv prog (Instr.fieldAt 68 t_1 0) w fun t_2 w =>
  ldv prog (Instr.loadAt 39 t_2) w fun t_3 w =>
  Calls prog 44 #[t_3, n_p1] w (Ret fun t_4 w =>
  pvv prog (Instr.extract t_4 0) w fun t_5 w =>
  pvv prog (Instr.extract t_4 1) w fun t_6 w =>
  Calls prog 50 #[t_5] w (Ret fun t_7 w =>
  pvv prog (binOp .lss 3 t_7 (.int .i64 1)) w fun t_8 w =>
  gate (some (t_8, false)) (fun K => K t_7 w) w fun t_9 w =>
  gate (some (t_8, false)) (fun K => pvv prog (binOp .gtr 3 t_9 (.int .i64 100)) w K) w fun t_10 w =>
  pv prog (oPick t_8 (.bool true) t_10) w fun t_11 w =>
  gate (some (t_11, false)) (fun K => K n_p1 w) w fun t_12 w =>
  gate (some (t_11, false)) (fun K => K t_7 w) w fun t_13 w =>
  gate (some (t_11, false)) (fun K => pvv prog (binOp .add 3 t_12 t_13) w K) w fun t_14 w =>
  gate (some (t_11, false)) (fun K => K l_p0 w) w fun t_15 w =>
  gate (some (t_11, false)) (fun K => pv prog (oNil t_15) w K) w fun t_16 w =>
  gate (some (t_11, false)) (fun K => pvv prog (Instr.fieldAt 71 t_16 3) w K) w fun t_17 w =>
  gate (some (t_11, false)) (fun K => ldv prog (Instr.loadAt 3 t_17) w K) w fun t_18 w =>
  gate (some (t_11, false)) (fun K => pvv prog (binOp .gtr 3 t_14 t_18) w K) w fun t_19 w =>
  pv prog (oPick t_11 (.bool true) t_19) w fun t_20 w =>
  gate (some (t_20, false)) (fun K => K t_5 w) w fun t_21 w =>
  gate (some (t_20, false)) (fun K => K t_7 w) w fun t_22 w =>
  gate (some (t_20, false)) (fun K => pvv prog (binOp .mul 3 (.int .i64 2) t_22) w K) w fun t_23 w =>
  gate (some (t_20, false)) (fun K => pvv prog (binOp .add 3 (.int .i64 2) t_23) w K) w fun t_24 w =>
  gate (some (t_20, false)) (fun K => pvv prog (Instr.sliceAt 33 t_21 (some t_24) none none) w K) w fun t_25 w =>
  gate (some (t_20, false)) (fun K => Calls prog 48 #[t_25] w (Ret K)) w fun t_26 w =>
  gate (some (t_20, false)) (fun K => pvv prog (Op.unary .not t_26) w K) w fun t_27 w =>
  pv prog (oPick t_20 (.bool true) t_27) w fun t_28 w =>
  cd t_28 (
    K (.int .i64 0) w) <|
  lp (fun σ w again_31 => pop σ fun last_29 σ => pop σ fun t_30 σ => fin σ <|
    pvv prog (binOp .lss 3 t_30 t_7) w fun t_32 w =>
    cd t_32 (
      pvv prog (binOp .mul 3 (.int .i64 2) t_30) w fun t_33 w =>
      pvv prog (binOp .add 3 (.int .i64 2) t_33) w fun t_34 w =>
      pvv prog (Instr.sliceAt 33 t_5 (some t_34) none none) w fun t_35 w =>
      Calls prog 50 #[t_35] w (Ret fun t_36 w =>
      pvv prog (binOp .leq 3 t_36 last_29) w fun t_37 w =>
      gate (some (t_37, false)) (fun K => K t_36 w) w fun t_38 w =>
      gate (some (t_37, false)) (fun K => K l_p0 w) w fun t_39 w =>
      gate (some (t_37, false)) (fun K => Calls prog 18 #[t_39] w (Ret K)) w fun t_40 w =>
      gate (some (t_37, false)) (fun K => pvv prog (binOp .geq 3 t_38 t_40) w K) w fun t_41 w =>
      pv prog (oPick t_37 (.bool true) t_41) w fun t_42 w =>
      cd t_42 (
        K (.int .i64 0) w) <|
      pv prog (oNil l_p0) w fun t_43 w =>
      pvv prog (Instr.fieldAt 71 t_43 4) w fun t_44 w =>
      ldv prog (Instr.loadAt 69 t_44) w fun t_45 w =>
      pvv prog (binOp .add 3 n_p1 (.int .i64 1)) w fun t_46 w =>
      pvv prog (binOp .add 3 t_46 t_30) w fun t_47 w =>
      efu prog (Instr.mapUpdate 69 t_45 t_36 t_47) w fun u_48 w =>
      pvv prog (binOp .add 3 t_30 (.int .i64 1)) w fun t_49 w =>
      again_31 [t_36, t_49] w)) <|
    K t_7 w) [(.int .i64 (-1)), (.int .i64 0)] w))
theorem B51_eq (l_p0 n_p1 : Value) (w : World) (K : Value → World → Prop) : denFn prog Try.f51 T51 [l_p0, n_p1] w K = B51 l_p0 n_p1 w K := by kernel_rfl
theorem c51 {l_p0 n_p1 : Value} {w : World} {K : Value → World → Prop} (h : B51 l_p0 n_p1 w K) : Calls prog 51 #[l_p0, n_p1] w (Ret K) :=
  denFn_calls Try.func51 T51_ok (Eq.mpr (B51_eq l_p0 n_p1 w K) h)

-- 93 slices.insertionSortOrdered[int]
def T93 : Ann := (.seq .none (.block (.loop 562949953420480 [6] (.seq (.seq .none (.seq .none .none)) (.seq (.block (.seq .none (.block (.loop 562949953355904 [7] (.seq (.seq (.draw [.op 0 .pure, .op 1 .pure, .op 2 .pure, .op 3 .pure, .op 4 .pure, .op 5 .pure, .op 6 .pure, .op 8 .pure, .op 9 .pure, .op 10 .pure, .op 11 .pure, .op 7 .load, .op 12 .load, .op 13 .eff, .op 14 .pure]) (.seq .none .none)) (.seq (.block (.draw [.op 0 .pure, .op 1 .pure, .op 2 .pure, .op 3 .pure, .op 4 .pure, .op 5 .pure, .op 6 .pure, .op 7 .pure, .op 8 .pure, .op 10 .pure, .op 11 .pure, .op 12 .pure, .op 9 .load, .op 13 .load, .op 14 .pure, .op 15 .eff, .op 16 .pure, .op 17 .eff])) .none)))))) .none)))))
theorem T93_ok : chkFn prog Try.f93 T93 = true := by kernel_rfl
def B93 (data_p0 a_p1 b_p2 : Value) (w : World) (K : Value → World → Prop) : Prop :=
  pvv prog (binOp .add 3 a_p1 (.int .i64 1)) w fun t_0 w =>
  lp (fun σ w again_2 => pop σ fun i_1 σ => fin σ <|
    pvv prog (binOp .lss 3 i_1 b_p2) w fun t_3 w =>
    cd t_3 (
      lp (fun σ w again_5 => pop σ fun j_4 σ => fin σ <|
        dr w fun w =>
        pvv prog (binOp .gtr 3 j_4 a_p1) w fun t_6 w =>
        gate (some (t_6, true)) (fun K => K data_p0 w) w fun t_7 w =>
        gate (some (t_6, true)) (fun K => K j_4 w) w fun t_8 w =>
        gate (some (t_6, true)) (fun K => pvv prog (Instr.indexAt 29 t_7 t_8) w K) w fun t_9 w =>
        gate (some (t_6, true)) (fun K => K data_p0 w) w fun t_10 w =>
        gate (some (t_6, true)) (fun K => K j_4 w) w fun t_11 w =>
        gate (some (t_6, true)) (fun K => pvv prog (binOp .sub 3 t_11 (.int .i64 1)) w K) w fun t_12 w =>
        gate (some (t_6, true)) (fun K => pvv prog (Instr.indexAt 29 t_10 t_12) w K) w fun t_13 w =>
        bindS (vN (Instr.loadAt 3 t_9)) fun m_15 => gate (some (t_6, true)) (fun K => ldv prog (Instr.loadAt 3 t_9) w K) w fun t_14 w =>
        bindS (vN (Instr.loadAt 3 t_13)) fun m_17 => gate (some (t_6, true)) (fun K => ldv prog (Instr.loadAt 3 t_13) w K) w fun t_16 w =>
        gate (some (t_6, true)) (fun K => Calls prog 99 #[t_14, t_16] w (Ret fun s_36 w => K s_36 w)) w fun t_18 w =>
        pv prog (oPick t_6 t_18 (.bool false)) w fun t_19 w =>
        cd t_19 (
          dr w fun w =>
          pvv prog (binOp .sub 3 j_4 (.int .i64 1)) w fun t_20 w =>
          pvv prog (binOp .sub 3 j_4 (.int .i64 1)) w fun t_21 w =>
          pvv prog (Instr.indexAt 29 data_p0 t_21) w fun t_22 w =>
          pvv prog (Instr.indexAt 29 data_p0 j_4) w fun t_23 w =>
          bindS (vN (Instr.loadAt 3 t_22)) fun m_25 => ldv prog (Instr.loadAt 3 t_22) w fun t_24 w =>
          bindS (vN (Instr.loadAt 3 t_23)) fun m_27 => ldv prog (Instr.loadAt 3 t_23) w fun t_26 w =>
          pvv prog (Instr.indexAt 29 data_p0 j_4) w fun t_28 w =>
          efu prog (Instr.storeAt 3 t_28 t_24) w fun u_29 w =>
          pvv prog (Instr.indexAt 29 data_p0 t_20) w fun t_30 w =>
          efu prog (Instr.storeAt 3 t_30 t_26) w fun u_31 w =>
          pvv prog (binOp .sub 3 j_4 (.int .i64 1)) w fun t_32 w =>
          again_5 [t_32] w) <|
        pvv prog (binOp .add 3 i_1 (.int .i64 1)) w fun t_35 w =>
        again_2 [t_35] w) [i_1] w) <|
    K (.tuple #[]) w) [t_0] w
theorem B93_eq (data_p0 a_p1 b_p2 : Value) (w : World) (K : Value → World → Prop) : denFn prog Try.f93 T93 [data_p0, a_p1, b_p2] w K = B93 data_p0 a_p1 b_p2 w K := by kernel_rfl
theorem c93 {data_p0 a_p1 b_p2 : Value} {w : World} {K : Value → World → Prop} (h : B93 data_p0 a_p1 b_p2 w K) : Calls prog 93 #[data_p0, a_p1, b_p2] w (Ret K) :=
  denFn_calls Try.func93 T93_ok (Eq.mpr (B93_eq data_p0 a_p1 b_p2 w K) h)

-- 9 (holdfast/holdfastlaw03.Deed).pages
def T9 : Ann := (.seq .none (.seq .none (.seq (.seq .none (.block (.loop 2251799813685240 [3, 4] (.seq (.seq .none (.seq .none .none)) (.seq (.block (.seq .none (.seq (.seq .none (.block (.loop 8589410368 [6] (.seq (.seq .none (.seq .none .none)) (.seq (.block .none) .none))))) (.meet 2190433320992 [5] (.seq .none (.seq .none .none)) .none)))) .none))))) (.seq .none .none))))
theorem T9_ok : chkFn prog Try.f9 T9 = true := by kernel_rfl
def B9 (d_p0 : Value) (w : World) (K : Value → World → Prop) : Prop :=
  efv prog (Instr.box 31 d_p0) w fun d_0 w =>
  lp (fun σ w again_3 => pop σ fun out_1 σ => pop σ fun i_2 σ => fin σ <|
    pvv prog (Instr.fieldAt 31 d_0 2) w fun t_4 w =>
    ldv prog (Instr.loadAt 29 t_4) w fun t_5 w =>
    pv prog (oBi .len #[29] 3 #[false] #[t_5]) w fun t_6 w =>
    pvv prog (binOp .lss 3 i_2 t_6) w fun t_7 w =>
    gate (some (t_7, true)) (fun K => K i_2 w) w fun t_8 w =>
    gate (some (t_7, true)) (fun K => pvv prog (binOp .lss 3 t_8 (.int .i64 102)) w K) w fun t_9 w =>
    pv prog (oPick t_7 t_9 (.bool false)) w fun t_10 w =>
    cd t_10 (
      efv prog (Instr.makeSlice 33 (.int .i64 256) (.int .i64 256)) w fun t_11 w =>
      lp (fun σ w again_13 => pop σ fun k_12 σ => fin σ <|
        pv prog (oBi .len #[33] 3 #[false] #[t_11]) w fun t_14 w =>
        pvv prog (binOp .lss 3 k_12 t_14) w fun t_15 w =>
        cd t_15 (
          pvv prog (Instr.fieldAt 31 d_0 3) w fun t_16 w =>
          ldv prog (Instr.loadAt 5 t_16) w fun t_17 w =>
          pvv prog (convert 3 5 i_2) w fun t_18 w =>
          pvv prog (binOp .add 5 t_17 t_18) w fun t_19 w =>
          pvv prog (Instr.indexAt 33 t_11 k_12) w fun t_20 w =>
          efu prog (Instr.storeAt 5 t_20 t_19) w fun u_21 w =>
          pvv prog (binOp .add 3 k_12 (.int .i64 1)) w fun t_22 w =>
          again_13 [t_22] w) <|
        jn (fun σ w => pop σ fun b_23 σ => fin σ <|
          pvv prog (Instr.fieldAt 31 d_0 2) w fun t_24 w =>
          ldv prog (Instr.loadAt 29 t_24) w fun t_25 w =>
          pvv prog (Instr.indexAt 29 t_25 i_2) w fun t_26 w =>
          ldv prog (Instr.loadAt 3 t_26) w fun t_27 w =>
          pvv prog (Instr.build 35 #[(0, t_27), (1, b_23)]) w fun t_28 w =>
          efv prog (Instr.buildSlice 28 1 #[(0, t_28)]) w fun t_29 w =>
          ef prog (oBi .append #[28, 28] 28 #[false, false] #[out_1, t_29]) w fun t_30 w =>
          pvv prog (binOp .add 3 i_2 (.int .i64 1)) w fun t_31 w =>
          again_3 [t_30, t_31] w) fun k_32 =>
        pvv prog (Instr.fieldAt 31 d_0 1) w fun t_33 w =>
        ldv prog (Instr.loadAt 4 t_33) w fun t_34 w =>
        gate (some (t_34, true)) (fun K => K i_2 w) w fun t_35 w =>
        gate (some (t_34, true)) (fun K => pvv prog (oEq .eql 3 (.tmp 36) (.const (.int .i64 0)) t_35 (.int .i64 0)) w K) w fun t_36 w =>
        pv prog (oPick t_34 t_36 (.bool false)) w fun t_37 w =>
        cd t_37 (
          pvv prog (Instr.sliceAt 33 t_11 none (some (.int .i64 255)) none) w fun t_38 w =>
          k_32 [t_38] w) <|
        k_32 [t_11] w) [(.int .i64 0)] w) <|
    K out_1 w) [(.slice none 0 0), (.int .i64 0)] w
theorem B9_eq (d_p0 : Value) (w : World) (K : Value → World → Prop) : denFn prog Try.f9 T9 [d_p0] w K = B9 d_p0 w K := by kernel_rfl
theorem c9 {d_p0 : Value} {w : World} {K : Value → World → Prop} (h : B9 d_p0 w K) : Calls prog 9 #[d_p0] w (Ret K) :=
  denFn_calls Try.func9 T9_ok (Eq.mpr (B9_eq d_p0 w K) h)

-- 106 (*slices.xorshift).Next
def T106 : Ann := (.seq .none (.seq (.draw [.op 0 .pure, .op 1 .pure, .op 3 .pure, .op 4 .pure, .op 2 .load, .op 5 .load, .op 6 .pure, .op 7 .pure, .op 8 .pure, .op 9 .eff]) (.seq (.draw [.op 0 .pure, .op 1 .pure, .op 3 .pure, .op 4 .pure, .op 2 .load, .op 5 .load, .op 6 .pure, .op 7 .pure, .op 8 .pure, .op 9 .eff]) (.seq (.draw [.op 0 .pure, .op 1 .pure, .op 3 .pure, .op 4 .pure, .op 2 .load, .op 5 .load, .op 6 .pure, .op 7 .pure, .op 8 .pure, .op 9 .eff]) (.seq .none .none)))))
theorem T106_ok : chkFn prog Try.f106 T106 = true := by kernel_rfl
def B106 (r_p0 : Value) (w : World) (K : Value → World → Prop) : Prop :=
  dr w fun w =>
  pv prog (oNil r_p0) w fun t_0 w =>
  pv prog (oNil r_p0) w fun t_1 w =>
  bindS (vN (Instr.loadAt 151 t_0)) fun m_3 => ldv prog (Instr.loadAt 151 t_0) w fun t_2 w =>
  bindS (vN (Instr.loadAt 151 t_1)) fun m_5 => ldv prog (Instr.loadAt 151 t_1) w fun t_4 w =>
  pvv prog (binOp .shl 151 t_4 (.int .u64 13)) w fun t_6 w =>
  pvv prog (binOp .xor 151 t_2 t_6) w fun t_7 w =>
  pv prog (oNil r_p0) w fun t_8 w =>
  efu prog (Instr.storeAt 151 t_8 t_7) w fun u_9 w =>
  dr w fun w =>
  pv prog (oNil r_p0) w fun t_10 w =>
  pv prog (oNil r_p0) w fun t_11 w =>
  bindS (vN (Instr.loadAt 151 t_10)) fun m_13 => ldv prog (Instr.loadAt 151 t_10) w fun t_12 w =>
  bindS (vN (Instr.loadAt 151 t_11)) fun m_15 => ldv prog (Instr.loadAt 151 t_11) w fun t_14 w =>
  pvv prog (binOp .shr 151 t_14 (.int .u64 7)) w fun t_16 w =>
  pvv prog (binOp .xor 151 t_12 t_16) w fun t_17 w =>
  pv prog (oNil r_p0) w fun t_18 w =>
  efu prog (Instr.storeAt 151 t_18 t_17) w fun u_19 w =>
  dr w fun w =>
  pv prog (oNil r_p0) w fun t_20 w =>
  pv prog (oNil r_p0) w fun t_21 w =>
  bindS (vN (Instr.loadAt 151 t_20)) fun m_23 => ldv prog (Instr.loadAt 151 t_20) w fun t_22 w =>
  bindS (vN (Instr.loadAt 151 t_21)) fun m_25 => ldv prog (Instr.loadAt 151 t_21) w fun t_24 w =>
  pvv prog (binOp .shl 151 t_24 (.int .u64 17)) w fun t_26 w =>
  pvv prog (binOp .xor 151 t_22 t_26) w fun t_27 w =>
  pv prog (oNil r_p0) w fun t_28 w =>
  efu prog (Instr.storeAt 151 t_28 t_27) w fun u_29 w =>
  pv prog (oNil r_p0) w fun t_30 w =>
  ldv prog (Instr.loadAt 151 t_30) w fun t_31 w =>
  K t_31 w
theorem B106_eq (r_p0 : Value) (w : World) (K : Value → World → Prop) : denFn prog Try.f106 T106 [r_p0] w K = B106 r_p0 w K := by kernel_rfl
theorem c106 {r_p0 : Value} {w : World} {K : Value → World → Prop} (h : B106 r_p0 w K) : Calls prog 106 #[r_p0] w (Ret K) :=
  denFn_calls Try.func106 T106_ok (Eq.mpr (B106_eq r_p0 w K) h)

-- 28 holdfast/holdfastref01.New
def T28 : Ann := (.seq .none (.seq (.seq .none (.seq (.seq .none .none) .none)) (.seq .none (.seq (.seq .none (.block (.loop 536854560 [5] (.seq (.seq .none (.seq .none .none)) (.seq (.block (.draw [.op 0 .pure, .op 1 .pure, .op 2 .pure, .op 3 .pure, .op 4 .load, .op 5 .eff, .op 6 .eff, .op 7 .eff, .op 8 .pure, .op 9 .pure, .op 10 .eff])) .none))))) (.seq .none .none)))))
theorem T28_ok : chkFn prog Try.f28 T28 = true := by kernel_rfl
def B28 (blocks_p0 : Value) (w : World) (K : Value → World → Prop) : Prop :=
  pvv prog (binOp .lss 3 blocks_p0 (.int .i64 1)) w fun t_0 w =>
  gate (some (t_0, false)) (fun K => K blocks_p0 w) w fun t_1 w =>
  gate (some (t_0, false)) (fun K => pvv prog (binOp .gtr 3 t_1 (.int .i64 1024)) w K) w fun t_2 w =>
  pv prog (oPick t_0 (.bool true) t_2) w fun t_3 w =>
  cd t_3 (
    K (.tuple #[(.pointer none), (.int .i64 2)]) w) <|
  pvv prog (Instr.build 102 #[]) w fun t_4 w =>
  efv prog (Instr.box 102 t_4) w fun t_5 w =>
  lp (fun σ w again_7 => pop σ fun i_6 σ => fin σ <|
    pvv prog (binOp .lss 3 i_6 blocks_p0) w fun t_8 w =>
    cd t_8 (
      dr w fun w =>
      pv prog (oNil t_5) w fun t_9 w =>
      pvv prog (Instr.fieldAt 102 t_9 0) w fun t_10 w =>
      bindS (vN (Instr.loadAt 78 t_10)) fun m_12 => ldv prog (Instr.loadAt 78 t_10) w fun t_11 w =>
      efv prog (Instr.makeSlice 33 (.int .i64 256) (.int .i64 256)) w fun t_13 w => stay prog none m_12 t_11 w <| 
      efv prog (Instr.buildSlice 78 1 #[(0, t_13)]) w fun t_14 w => stay prog none m_12 t_11 w <| 
      ef prog (oBi .append #[78, 78] 78 #[false, false] #[t_11, t_14]) w fun t_15 w =>
      pv prog (oNil t_5) w fun t_16 w =>
      pvv prog (Instr.fieldAt 102 t_16 0) w fun t_17 w =>
      efu prog (Instr.storeAt 78 t_17 t_15) w fun u_18 w =>
      pvv prog (binOp .add 3 i_6 (.int .i64 1)) w fun t_19 w =>
      again_7 [t_19] w) <|
    K (.tuple #[t_5, (.int .i64 0)]) w) [(.int .i64 0)] w
theorem B28_eq (blocks_p0 : Value) (w : World) (K : Value → World → Prop) : denFn prog Try.f28 T28 [blocks_p0] w K = B28 blocks_p0 w K := by kernel_rfl
theorem c28 {blocks_p0 : Value} {w : World} {K : Value → World → Prop} (h : B28 blocks_p0 w K) : Calls prog 28 #[blocks_p0] w (Ret K) :=
  denFn_calls Try.func28 T28_ok (Eq.mpr (B28_eq blocks_p0 w K) h)

-- 57 holdfast/holdfastref01.Load
def T57 : Ann := (.seq .none (.seq (.seq .none (.seq (.seq .none .none) .none)) (.seq (.seq .none (.block (.loop 33546268 [4] (.seq (.seq .none (.seq .none .none)) (.seq (.block (.seq .none (.seq (.seq .none .none) .none))) .none))))) (.seq .none .none))))
theorem T57_ok : chkFn prog Try.f57 T57 = true := by kernel_rfl
def B57 (image_p0 : Value) (w : World) (K : Value → World → Prop) : Prop :=
  pv prog (oBi .len #[78] 3 #[false] #[image_p0]) w fun t_0 w =>
  pvv prog (binOp .lss 3 t_0 (.int .i64 1)) w fun t_1 w =>
  gate (some (t_1, false)) (fun K => K image_p0 w) w fun t_2 w =>
  gate (some (t_1, false)) (fun K => pv prog (oBi .len #[78] 3 #[false] #[t_2]) w K) w fun t_3 w =>
  gate (some (t_1, false)) (fun K => pvv prog (binOp .gtr 3 t_3 (.int .i64 1024)) w K) w fun t_4 w =>
  pv prog (oPick t_1 (.bool true) t_4) w fun t_5 w =>
  cd t_5 (
    K (.tuple #[(.pointer none), (.int .i64 2)]) w) <|
  lp (fun σ w again_7 => pop σ fun i_6 σ => fin σ <|
    pv prog (oBi .len #[78] 3 #[false] #[image_p0]) w fun t_8 w =>
    pvv prog (binOp .lss 3 i_6 t_8) w fun t_9 w =>
    cd t_9 (
      pvv prog (Instr.indexAt 78 image_p0 i_6) w fun t_10 w =>
      ldv prog (Instr.loadAt 33 t_10) w fun t_11 w =>
      pv prog (oBi .len #[33] 3 #[false] #[t_11]) w fun t_12 w =>
      pvv prog (oEq .neq 3 (.tmp 23) (.const (.int .i64 256)) t_12 (.int .i64 256)) w fun t_13 w =>
      cd t_13 (
        K (.tuple #[(.pointer none), (.int .i64 3)]) w) <|
      pvv prog (binOp .add 3 i_6 (.int .i64 1)) w fun t_14 w =>
      again_7 [t_14] w) <|
    Calls prog 80 #[image_p0] w (Ret fun t_15 w =>
    pvv prog (Instr.build 102 #[(0, t_15)]) w fun t_16 w =>
    efv prog (Instr.box 102 t_16) w fun t_17 w =>
    K (.tuple #[t_17, (.int .i64 0)]) w)) [(.int .i64 0)] w
theorem B57_eq (image_p0 : Value) (w : World) (K : Value → World → Prop) : denFn prog Try.f57 T57 [image_p0] w K = B57 image_p0 w K := by kernel_rfl
theorem c57 {image_p0 : Value} {w : World} {K : Value → World → Prop} (h : B57 image_p0 w K) : Calls prog 57 #[image_p0] w (Ret K) :=
  denFn_calls Try.func57 T57_ok (Eq.mpr (B57_eq image_p0 w K) h)

-- 97 slices.reverseRangeOrdered[int]
def T97 : Ann := (.seq .none (.seq .none (.block (.loop 4294965440 [6, 7] (.seq (.seq .none (.seq .none .none)) (.block (.seq (.draw [.op 0 .pure, .op 1 .pure, .op 2 .pure, .op 3 .pure, .op 4 .pure, .op 5 .pure, .op 6 .pure, .op 8 .pure, .op 9 .pure, .op 10 .pure, .op 7 .load, .op 11 .load, .op 12 .pure, .op 13 .eff, .op 14 .pure, .op 15 .eff]) (.seq .none .none))))))))
theorem T97_ok : chkFn prog Try.f97 T97 = true := by kernel_rfl
def B97 (data_p0 a_p1 b_p2 : Value) (w : World) (K : Value → World → Prop) : Prop :=
  pvv prog (binOp .sub 3 b_p2 (.int .i64 1)) w fun t_0 w =>
  lp (fun σ w again_3 => pop σ fun i_1 σ => pop σ fun j_2 σ => fin σ <|
    pvv prog (binOp .lss 3 i_1 j_2) w fun t_4 w =>
    cd t_4 (
      dr w fun w =>
      pvv prog (Instr.indexAt 29 data_p0 j_2) w fun t_5 w =>
      pvv prog (Instr.indexAt 29 data_p0 i_1) w fun t_6 w =>
      bindS (vN (Instr.loadAt 3 t_5)) fun m_8 => ldv prog (Instr.loadAt 3 t_5) w fun t_7 w =>
      bindS (vN (Instr.loadAt 3 t_6)) fun m_10 => ldv prog (Instr.loadAt 3 t_6) w fun t_9 w =>
      pvv prog (Instr.indexAt 29 data_p0 i_1) w fun t_11 w =>
      efu prog (Instr.storeAt 3 t_11 t_7) w fun u_12 w =>
      pvv prog (Instr.indexAt 29 data_p0 j_2) w fun t_13 w =>
      efu prog (Instr.storeAt 3 t_13 t_9) w fun u_14 w =>
      pvv prog (binOp .add 3 i_1 (.int .i64 1)) w fun t_15 w =>
      pvv prog (binOp .sub 3 j_2 (.int .i64 1)) w fun t_16 w =>
      again_3 [t_15, t_16] w) <|
    K (.tuple #[]) w) [a_p1, t_0] w
theorem B97_eq (data_p0 a_p1 b_p2 : Value) (w : World) (K : Value → World → Prop) : denFn prog Try.f97 T97 [data_p0, a_p1, b_p2] w K = B97 data_p0 a_p1 b_p2 w K := by kernel_rfl
theorem c97 {data_p0 a_p1 b_p2 : Value} {w : World} {K : Value → World → Prop} (h : B97 data_p0 a_p1 b_p2 w K) : Calls prog 97 #[data_p0, a_p1, b_p2] w (Ret K) :=
  denFn_calls Try.func97 T97_ok (Eq.mpr (B97_eq data_p0 a_p1 b_p2 w K) h)

-- 31 holdfast/holdfastref01.SameInts
def T31 : Ann := (.seq .none (.seq (.seq .none (.seq (.seq .none .none) .none)) (.seq (.seq .none (.block (.loop 67106864 [5] (.seq (.seq .none (.seq .none .none)) (.seq (.block (.seq (.draw [.op 0 .pure, .op 1 .pure, .op 2 .pure, .op 4 .pure, .op 5 .pure, .op 6 .pure, .op 3 .load, .op 7 .load, .op 8 .pure]) (.seq (.seq .none .none) .none))) .none))))) (.seq .none .none))))
theorem T31_ok : chkFn prog Try.f31 T31 = true := by kernel_rfl
def B31 (a_p0 b_p1 : Value) (w : World) (K : Value → World → Prop) : Prop :=
  pv prog (oBi .len #[29] 3 #[false] #[a_p0]) w fun t_0 w =>
  pv prog (oBi .len #[29] 3 #[false] #[b_p1]) w fun t_1 w =>
  pvv prog (oEq .neq 3 (.tmp 7) (.tmp 9) t_0 t_1) w fun t_2 w =>
  cd t_2 (
    K (.bool false) w) <|
  lp (fun σ w again_4 => pop σ fun i_3 σ => fin σ <|
    pv prog (oBi .len #[29] 3 #[false] #[a_p0]) w fun t_5 w =>
    pvv prog (binOp .lss 3 i_3 t_5) w fun t_6 w =>
    cd t_6 (
      dr w fun w =>
      pvv prog (Instr.indexAt 29 a_p0 i_3) w fun t_7 w =>
      pvv prog (Instr.indexAt 29 b_p1 i_3) w fun t_8 w =>
      bindS (vN (Instr.loadAt 3 t_7)) fun m_10 => ldv prog (Instr.loadAt 3 t_7) w fun t_9 w =>
      bindS (vN (Instr.loadAt 3 t_8)) fun m_12 => ldv prog (Instr.loadAt 3 t_8) w fun t_11 w =>
      pvv prog (oEq .neq 3 (.tmp 20) (.tmp 24) t_9 t_11) w fun t_13 w =>
      cd t_13 (
        K (.bool false) w) <|
      pvv prog (binOp .add 3 i_3 (.int .i64 1)) w fun t_14 w =>
      again_4 [t_14] w) <|
    K (.bool true) w) [(.int .i64 0)] w
theorem B31_eq (a_p0 b_p1 : Value) (w : World) (K : Value → World → Prop) : denFn prog Try.f31 T31 [a_p0, b_p1] w K = B31 a_p0 b_p1 w K := by kernel_rfl
theorem c31 {a_p0 b_p1 : Value} {w : World} {K : Value → World → Prop} (h : B31 a_p0 b_p1 w K) : Calls prog 31 #[a_p0, b_p1] w (Ret K) :=
  denFn_calls Try.func31 T31_ok (Eq.mpr (B31_eq a_p0 b_p1 w K) h)

-- 25 holdfast/pager.New
def T25 : Ann := (.seq .none (.seq (.block (.seq .none (.seq (.seq .none .none) (.seq .none (.seq (.seq .none .none) .none))))) (.seq .none .none)))
theorem T25_ok : chkFn prog Try.f25 T25 = true := by kernel_rfl
def B25 (l_p0 most_p1 : Value) (w : World) (K : Value → World → Prop) : Prop :=
  pvv prog (oEq .eql 23 (.tmp 7) (.const (.pointer none)) l_p0 (.pointer none)) w fun t_0 w =>
  cd t_0 (
    K (.tuple #[(.pointer none), (.int .i64 1)]) w) <|
  pvv prog (binOp .lss 3 most_p1 (.int .i64 1)) w fun t_1 w =>
  gate (some (t_1, false)) (fun K => K most_p1 w) w fun t_2 w =>
  gate (some (t_1, false)) (fun K => pvv prog (binOp .gtr 3 t_2 (.int .i64 64)) w K) w fun t_3 w =>
  pv prog (oPick t_1 (.bool true) t_3) w fun t_4 w =>
  cd t_4 (
    K (.tuple #[(.pointer none), (.int .i64 2)]) w) <|
  efv prog (Instr.makeMap 66 none) w fun t_5 w =>
  efv prog (Instr.makeMap 66 none) w fun t_6 w =>
  efv prog (Instr.makeMap 93 none) w fun t_7 w =>
  pvv prog (Instr.build 95 #[(0, l_p0), (1, most_p1), (2, t_5), (3, t_6), (5, t_7)]) w fun t_8 w =>
  efv prog (Instr.box 95 t_8) w fun t_9 w =>
  K (.tuple #[t_9, (.int .i64 0)]) w
theorem B25_eq (l_p0 most_p1 : Value) (w : World) (K : Value → World → Prop) : denFn prog Try.f25 T25 [l_p0, most_p1] w K = B25 l_p0 most_p1 w K := by kernel_rfl
theorem c25 {l_p0 most_p1 : Value} {w : World} {K : Value → World → Prop} (h : B25 l_p0 most_p1 w K) : Calls prog 25 #[l_p0, most_p1] w (Ret K) :=
  denFn_calls Try.func25 T25_ok (Eq.mpr (B25_eq l_p0 most_p1 w K) h)

-- 46 holdfast/block.Load
def T46 : Ann := (.seq .none (.seq (.block (.seq .none (.seq (.seq .none .none) (.seq .none (.seq (.seq .none .none) .none))))) (.seq .none .none)))
theorem T46_ok : chkFn prog Try.f46 T46 = true := by kernel_rfl
def B46 (image_p0 : Value) (w : World) (K : Value → World → Prop) : Prop :=
  pv prog (oBi .len #[78] 3 #[false] #[image_p0]) w fun t_0 w =>
  pvv prog (binOp .lss 3 t_0 (.int .i64 1)) w fun t_1 w =>
  gate (some (t_1, false)) (fun K => K image_p0 w) w fun t_2 w =>
  gate (some (t_1, false)) (fun K => pv prog (oBi .len #[78] 3 #[false] #[t_2]) w K) w fun t_3 w =>
  gate (some (t_1, false)) (fun K => pvv prog (binOp .gtr 3 t_3 (.int .i64 1024)) w K) w fun t_4 w =>
  pv prog (oPick t_1 (.bool true) t_4) w fun t_5 w =>
  cd t_5 (
    K (.tuple #[(.pointer none), (.int .i64 2)]) w) <|
  Calls prog 73 #[image_p0, (.func (.func 74) #[] #[])] w (Ret fun t_6 w =>
  cd t_6 (
    K (.tuple #[(.pointer none), (.int .i64 3)]) w) <|
  Calls prog 75 #[image_p0] w (Ret fun t_7 w =>
  pvv prog (Instr.build 86 #[(0, t_7)]) w fun t_8 w =>
  efv prog (Instr.box 86 t_8) w fun t_9 w =>
  K (.tuple #[t_9, (.int .i64 0)]) w))
theorem B46_eq (image_p0 : Value) (w : World) (K : Value → World → Prop) : denFn prog Try.f46 T46 [image_p0] w K = B46 image_p0 w K := by kernel_rfl
theorem c46 {image_p0 : Value} {w : World} {K : Value → World → Prop} (h : B46 image_p0 w K) : Calls prog 46 #[image_p0] w (Ret K) :=
  denFn_calls Try.func46 T46_ok (Eq.mpr (B46_eq image_p0 w K) h)

-- 80 holdfast/holdfastref01.CopyAll
def T80 : Ann := (.seq .none (.seq .none (.seq (.seq .none (.block (.loop 524280 [3, 4] (.seq (.seq .none (.seq .none .none)) (.seq (.block .none) .none))))) (.seq .none .none))))
theorem T80_ok : chkFn prog Try.f80 T80 = true := by kernel_rfl
def B80 (l_p0 : Value) (w : World) (K : Value → World → Prop) : Prop :=
  lp (fun σ w again_2 => pop σ fun out_0 σ => pop σ fun i_1 σ => fin σ <|
    pv prog (oBi .len #[78] 3 #[false] #[l_p0]) w fun t_3 w =>
    pvv prog (binOp .lss 3 i_1 t_3) w fun t_4 w =>
    cd t_4 (
      pvv prog (Instr.indexAt 78 l_p0 i_1) w fun t_5 w =>
      ldv prog (Instr.loadAt 33 t_5) w fun t_6 w =>
      Calls prog 92 #[t_6] w (Ret fun t_7 w =>
      efv prog (Instr.buildSlice 78 1 #[(0, t_7)]) w fun t_8 w =>
      ef prog (oBi .append #[78, 78] 78 #[false, false] #[out_0, t_8]) w fun t_9 w =>
      pvv prog (binOp .add 3 i_1 (.int .i64 1)) w fun t_10 w =>
      again_2 [t_9, t_10] w)) <|
    K out_0 w) [(.slice none 0 0), (.int .i64 0)] w
theorem B80_eq (l_p0 : Value) (w : World) (K : Value → World → Prop) : denFn prog Try.f80 T80 [l_p0] w K = B80 l_p0 w K := by kernel_rfl
theorem c80 {l_p0 : Value} {w : World} {K : Value → World → Prop} (h : B80 l_p0 w K) : Calls prog 80 #[l_p0] w (Ret K) :=
  denFn_calls Try.func80 T80_ok (Eq.mpr (B80_eq l_p0 w K) h)

-- 60 holdfast/holdfastref03.zeros
def T60 : Ann := (.seq .none (.seq (.seq .none (.block (.loop 262064 [5] (.seq (.seq .none (.seq .none .none)) (.seq (.block (.seq .none (.seq (.seq .none .none) .none))) .none))))) (.seq .none .none)))
theorem T60_ok : chkFn prog Try.f60 T60 = true := by kernel_rfl
def B60 (b_p0 at_p1 : Value) (w : World) (K : Value → World → Prop) : Prop :=
  lp (fun σ w again_1 => pop σ fun i_0 σ => fin σ <|
    pv prog (oBi .len #[33] 3 #[false] #[b_p0]) w fun t_2 w =>
    pvv prog (binOp .lss 3 i_0 t_2) w fun t_3 w =>
    cd t_3 (
      pvv prog (Instr.indexAt 33 b_p0 i_0) w fun t_4 w =>
      ldv prog (Instr.loadAt 5 t_4) w fun t_5 w =>
      pvv prog (oEq .neq 5 (.tmp 16) (.const (.int .u8 0)) t_5 (.int .u8 0)) w fun t_6 w =>
      cd t_6 (
        K (.bool false) w) <|
      pvv prog (binOp .add 3 i_0 (.int .i64 1)) w fun t_7 w =>
      again_1 [t_7] w) <|
    K (.bool true) w) [at_p1] w
theorem B60_eq (b_p0 at_p1 : Value) (w : World) (K : Value → World → Prop) : denFn prog Try.f60 T60 [b_p0, at_p1] w K = B60 b_p0 at_p1 w K := by kernel_rfl
theorem c60 {b_p0 at_p1 : Value} {w : World} {K : Value → World → Prop} (h : B60 b_p0 at_p1 w K) : Calls prog 60 #[b_p0, at_p1] w (Ret K) :=
  denFn_calls Try.func60 T60_ok (Eq.mpr (B60_eq b_p0 at_p1 w K) h)

-- 66 maps.Keys[map[int][]byte,int,[]byte]$1
def T66 : Ann := (.seq .none (.block (.loop 16328 [] (.seq .none (.seq (.seq .none .none) (.block (.seq .none (.seq .none (.seq .none .none)))))))))
theorem T66_ok : chkFn prog Try.f66 T66 = true := by kernel_rfl
def B66 (yield_p0 x_p1 : Value) (w : World) (K : Value → World → Prop) : Prop :=
  ldv prog (Instr.loadAt 66 x_p1) w fun t_0 w =>
  efv prog (Instr.range 66 t_0) w fun t_1 w =>
  lp (fun σ w again_2 => fin σ <|
    efv prog (Instr.next t_1 false 0) w fun t_3 w =>
    pvv prog (Instr.extract t_3 0) w fun t_4 w =>
    cd t_4 (
      efv prog (Instr.entry t_1) w fun t_5 w =>
      pvv prog (Instr.extract t_5 0) w fun t_6 w =>
      ef prog (oCall yield_p0 #[t_6]) w fun t_7 w =>
      pvv prog (Op.unary .not t_7) w fun t_8 w =>
      cd t_8 (
        K (.tuple #[]) w) <|
      again_2 [] w) <|
    K (.tuple #[]) w) [] w
theorem B66_eq (yield_p0 x_p1 : Value) (w : World) (K : Value → World → Prop) : denFn prog Try.f66 T66 [yield_p0, x_p1] w K = B66 yield_p0 x_p1 w K := by kernel_rfl
theorem c66 {yield_p0 x_p1 : Value} {w : World} {K : Value → World → Prop} (h : B66 yield_p0 x_p1 w K) : Calls prog 66 #[yield_p0, x_p1] w (Ret K) :=
  denFn_calls Try.func66 T66_ok (Eq.mpr (B66_eq yield_p0 x_p1 w K) h)

-- 90 slices.IndexFunc[[]byte,byte]
def T90 : Ann := (.seq .none (.seq (.seq .none (.block (.loop 524080 [8] (.seq .none (.seq (.seq .none .none) (.seq (.block (.seq .none (.seq .none (.seq (.seq .none .none) .none)))) .none)))))) (.seq .none .none)))
theorem T90_ok : chkFn prog Try.f90 T90 = true := by kernel_rfl
def B90 (s_p0 f_p1 : Value) (w : World) (K : Value → World → Prop) : Prop :=
  pv prog (oBi .len #[33] 3 #[false] #[s_p0]) w fun t_0 w =>
  lp (fun σ w again_2 => pop σ fun t_1 σ => fin σ <|
    pvv prog (binOp .lss 3 t_1 t_0) w fun t_3 w =>
    cd t_3 (
      pvv prog (Instr.indexAt 33 s_p0 t_1) w fun t_4 w =>
      ldv prog (Instr.loadAt 5 t_4) w fun t_5 w =>
      ef prog (oCall f_p1 #[t_5]) w fun t_6 w =>
      cd t_6 (
        K t_1 w) <|
      pvv prog (binOp .add 3 t_1 (.int .i64 1)) w fun t_7 w =>
      again_2 [t_7] w) <|
    K (.int .i64 (-1)) w) [(.int .i64 0)] w
theorem B90_eq (s_p0 f_p1 : Value) (w : World) (K : Value → World → Prop) : denFn prog Try.f90 T90 [s_p0, f_p1] w K = B90 s_p0 f_p1 w K := by kernel_rfl
theorem c90 {s_p0 f_p1 : Value} {w : World} {K : Value → World → Prop} (h : B90 s_p0 f_p1 w K) : Calls prog 90 #[s_p0, f_p1] w (Ret K) :=
  denFn_calls Try.func90 T90_ok (Eq.mpr (B90_eq s_p0 f_p1 w K) h)

-- 23 holdfast/holdfastref03.Need
def T23 : Ann := (.seq .none (.seq (.seq .none (.seq (.seq .none .none) .none)) (.seq .none .none)))
theorem T23_ok : chkFn prog Try.f23 T23 = true := by kernel_rfl
def B23 (pages_p0 : Value) (w : World) (K : Value → World → Prop) : Prop :=
  pvv prog (binOp .lss 3 pages_p0 (.int .i64 1)) w fun t_0 w =>
  gate (some (t_0, false)) (fun K => K pages_p0 w) w fun t_1 w =>
  gate (some (t_0, false)) (fun K => pvv prog (binOp .gtr 3 t_1 (.int .i64 100)) w K) w fun t_2 w =>
  pv prog (oPick t_0 (.bool true) t_2) w fun t_3 w =>
  cd t_3 (
    K (.int .i64 0) w) <|
  pvv prog (binOp .add 3 pages_p0 (.int .i64 1)) w fun t_4 w =>
  K t_4 w
theorem B23_eq (pages_p0 : Value) (w : World) (K : Value → World → Prop) : denFn prog Try.f23 T23 [pages_p0] w K = B23 pages_p0 w K := by kernel_rfl
theorem c23 {pages_p0 : Value} {w : World} {K : Value → World → Prop} (h : B23 pages_p0 w K) : Calls prog 23 #[pages_p0] w (Ret K) :=
  denFn_calls Try.func23 T23_ok (Eq.mpr (B23_eq pages_p0 w K) h)

-- 58 (*holdfast/holdfastref01.Disk).Image
def T58 : Ann := (.seq .none (.seq (.seq .none (.seq (.seq .none .none) .none)) (.seq .none .none)))
theorem T58_ok : chkFn prog Try.f58 T58 = true := by kernel_rfl
def B58 (d_p0 : Value) (w : World) (K : Value → World → Prop) : Prop :=
  pvv prog (oEq .eql 58 (.tmp 3) (.const (.pointer none)) d_p0 (.pointer none)) w fun t_0 w =>
  cd t_0 (
    K (.slice none 0 0) w) <|
  pv prog (oNil d_p0) w fun t_1 w =>
  pvv prog (Instr.fieldAt 102 t_1 1) w fun t_2 w =>
  ldv prog (Instr.loadAt 100 t_2) w fun t_3 w =>
  pv prog (oBi .len #[100] 3 #[false] #[t_3]) w fun t_4 w =>
  Calls prog 81 #[d_p0, t_4] w (Ret fun t_5 w =>
  K t_5 w)
theorem B58_eq (d_p0 : Value) (w : World) (K : Value → World → Prop) : denFn prog Try.f58 T58 [d_p0] w K = B58 d_p0 w K := by kernel_rfl
theorem c58 {d_p0 : Value} {w : World} {K : Value → World → Prop} (h : B58 d_p0 w K) : Calls prog 58 #[d_p0] w (Ret K) :=
  denFn_calls Try.func58 T58_ok (Eq.mpr (B58_eq d_p0 w K) h)

-- 47 (*holdfast/block.Disk).Image
def T47 : Ann := (.seq .none (.seq (.seq .none (.seq (.seq .none .none) .none)) (.seq .none .none)))
theorem T47_ok : chkFn prog Try.f47 T47 = true := by kernel_rfl
def B47 (d_p0 : Value) (w : World) (K : Value → World → Prop) : Prop :=
  pvv prog (oEq .eql 39 (.tmp 3) (.const (.pointer none)) d_p0 (.pointer none)) w fun t_0 w =>
  cd t_0 (
    K (.slice none 0 0) w) <|
  pv prog (oNil d_p0) w fun t_1 w =>
  pvv prog (Instr.fieldAt 86 t_1 0) w fun t_2 w =>
  ldv prog (Instr.loadAt 78 t_2) w fun t_3 w =>
  Calls prog 75 #[t_3] w (Ret fun t_4 w =>
  K t_4 w)
theorem B47_eq (d_p0 : Value) (w : World) (K : Value → World → Prop) : denFn prog Try.f47 T47 [d_p0] w K = B47 d_p0 w K := by kernel_rfl
theorem c47 {d_p0 : Value} {w : World} {K : Value → World → Prop} (h : B47 d_p0 w K) : Calls prog 47 #[d_p0] w (Ret K) :=
  denFn_calls Try.func47 T47_ok (Eq.mpr (B47_eq d_p0 w K) h)

-- 68 slices.Clone[[][]byte,[]byte]
def T68 : Ann := (.seq .none (.seq (.seq .none (.seq (.seq .none .none) .none)) (.seq .none .none)))
theorem T68_ok : chkFn prog Try.f68 T68 = true := by kernel_rfl
def B68 (s_p0 : Value) (w : World) (K : Value → World → Prop) : Prop :=
  pvv prog (oEq .eql 78 (.tmp 3) (.const (.slice none 0 0)) s_p0 (.slice none 0 0)) w fun t_0 w =>
  cd t_0 (
    K (.slice none 0 0) w) <|
  efv prog (Instr.buildSlice 78 0 #[]) w fun t_1 w =>
  ef prog (oBi .append #[78, 78] 78 #[false, false] #[t_1, s_p0]) w fun t_2 w =>
  K t_2 w
theorem B68_eq (s_p0 : Value) (w : World) (K : Value → World → Prop) : denFn prog Try.f68 T68 [s_p0] w K = B68 s_p0 w K := by kernel_rfl
theorem c68 {s_p0 : Value} {w : World} {K : Value → World → Prop} (h : B68 s_p0 w K) : Calls prog 68 #[s_p0] w (Ret K) :=
  denFn_calls Try.func68 T68_ok (Eq.mpr (B68_eq s_p0 w K) h)

-- 54 bytes.Clone
def T54 : Ann := (.seq .none (.seq (.seq .none (.seq (.seq .none .none) .none)) (.seq .none .none)))
theorem T54_ok : chkFn prog Try.f54 T54 = true := by kernel_rfl
def B54 (b_p0 : Value) (w : World) (K : Value → World → Prop) : Prop :=
  pvv prog (oEq .eql 33 (.tmp 3) (.const (.slice none 0 0)) b_p0 (.slice none 0 0)) w fun t_0 w =>
  cd t_0 (
    K (.slice none 0 0) w) <|
  efv prog (Instr.buildSlice 33 0 #[]) w fun t_1 w =>
  ef prog (oBi .append #[33, 33] 33 #[false, false] #[t_1, b_p0]) w fun t_2 w =>
  K t_2 w
theorem B54_eq (b_p0 : Value) (w : World) (K : Value → World → Prop) : denFn prog Try.f54 T54 [b_p0] w K = B54 b_p0 w K := by kernel_rfl
theorem c54 {b_p0 : Value} {w : World} {K : Value → World → Prop} (h : B54 b_p0 w K) : Calls prog 54 #[b_p0] w (Ret K) :=
  denFn_calls Try.func54 T54_ok (Eq.mpr (B54_eq b_p0 w K) h)

-- 105 slices.nextPowerOfTwo
def T105 : Ann := (.seq .none (.seq .none .none))
theorem T105_ok : chkFn prog Try.f105 T105 = true := by kernel_rfl
def B105 (length_p0 : Value) (w : World) (K : Value → World → Prop) : Prop :=
  pvv prog (convert 3 108 length_p0) w fun t_0 w =>
  Calls prog 86 #[t_0] w (Ret fun t_1 w =>
  pvv prog (binOp .shl 108 (.int .u64 1) t_1) w fun t_2 w =>
  K t_2 w)
theorem B105_eq (length_p0 : Value) (w : World) (K : Value → World → Prop) : denFn prog Try.f105 T105 [length_p0] w K = B105 length_p0 w K := by kernel_rfl
theorem c105 {length_p0 : Value} {w : World} {K : Value → World → Prop} (h : B105 length_p0 w K) : Calls prog 105 #[length_p0] w (Ret K) :=
  denFn_calls Try.func105 T105_ok (Eq.mpr (B105_eq length_p0 w K) h)

-- 40 bytes.Equal
def T40 : Ann := (.seq .none (.seq .none .none))
theorem T40_ok : chkFn prog Try.f40 T40 = true := by kernel_rfl
def B40 (a_p0 b_p1 : Value) (w : World) (K : Value → World → Prop) : Prop :=
  efv prog (convert 33 9 a_p0) w fun t_0 w =>
  efv prog (convert 33 9 b_p1) w fun t_1 w =>
  pvv prog (oEq .eql 9 (.tmp 6) (.tmp 8) t_0 t_1) w fun t_2 w =>
  K t_2 w
theorem B40_eq (a_p0 b_p1 : Value) (w : World) (K : Value → World → Prop) : denFn prog Try.f40 T40 [a_p0, b_p1] w K = B40 a_p0 b_p1 w K := by kernel_rfl
theorem c40 {a_p0 b_p1 : Value} {w : World} {K : Value → World → Prop} (h : B40 a_p0 b_p1 w K) : Calls prog 40 #[a_p0, b_p1] w (Ret K) :=
  denFn_calls Try.func40 T40_ok (Eq.mpr (B40_eq a_p0 b_p1 w K) h)

-- 36 maps.Keys[map[int][]byte,int,[]byte]
def T36 : Ann := (.seq .none (.seq .none .none))
theorem T36_ok : chkFn prog Try.f36 T36 = true := by kernel_rfl
def B36 (m_p0 : Value) (w : World) (K : Value → World → Prop) : Prop :=
  efv prog (Instr.box 66 m_p0) w fun m_0 w =>
  pvv prog (Instr.makeFunc (.func 66) #[] #[m_0]) w fun t_1 w =>
  K t_1 w
theorem B36_eq (m_p0 : Value) (w : World) (K : Value → World → Prop) : denFn prog Try.f36 T36 [m_p0] w K = B36 m_p0 w K := by kernel_rfl
theorem c36 {m_p0 : Value} {w : World} {K : Value → World → Prop} (h : B36 m_p0 w K) : Calls prog 36 #[m_p0] w (Ret K) :=
  denFn_calls Try.func36 T36_ok (Eq.mpr (B36_eq m_p0 w K) h)

-- 43 maps.Keys[map[int]int,int,int]
def T43 : Ann := (.seq .none (.seq .none .none))
theorem T43_ok : chkFn prog Try.f43 T43 = true := by kernel_rfl
def B43 (m_p0 : Value) (w : World) (K : Value → World → Prop) : Prop :=
  efv prog (Instr.box 69 m_p0) w fun m_0 w =>
  pvv prog (Instr.makeFunc (.func 72) #[] #[m_0]) w fun t_1 w =>
  K t_1 w
theorem B43_eq (m_p0 : Value) (w : World) (K : Value → World → Prop) : denFn prog Try.f43 T43 [m_p0] w K = B43 m_p0 w K := by kernel_rfl
theorem c43 {m_p0 : Value} {w : World} {K : Value → World → Prop} (h : B43 m_p0 w K) : Calls prog 43 #[m_p0] w (Ret K) :=
  denFn_calls Try.func43 T43_ok (Eq.mpr (B43_eq m_p0 w K) h)


end Go.Proofs.Ytgkeplodfkmnlaa
