import Derived.Test.YtbcimkjgpplcpaaGreatDoorPI
set_option linter.all false
set_option maxRecDepth 100000
namespace Go.Proofs.YtbcimkjgpplcpaaGreatDoor
open Go Hold
-- 119 slices.partitionOrdered[int]
def T119 : Ann := (.seq .none (.seq (.draw [.op 0 .pure, .op 1 .pure, .op 2 .pure, .op 3 .pure, .op 4 .pure, .op 5 .pure, .op 6 .pure, .op 8 .pure, .op 9 .pure, .op 10 .pure, .op 7 .load, .op 11 .load, .op 12 .pure, .op 13 .eff, .op 14 .pure, .op 15 .eff]) (.seq .none (.seq (.block (.loop 70367670436864 [10] (.seq (.seq (.draw [.op 0 .pure, .op 1 .pure, .op 2 .pure, .op 3 .pure, .op 4 .pure, .op 5 .pure, .op 6 .pure, .op 8 .pure, .op 9 .pure, .op 10 .pure, .op 7 .load, .op 11 .load, .op 12 .eff, .op 13 .pure]) (.seq .none .none)) (.block .none)))) (.seq (.block (.loop 9223301668110600192 [11] (.seq (.seq (.draw [.op 0 .pure, .op 1 .pure, .op 2 .pure, .op 3 .pure, .op 4 .pure, .op 5 .pure, .op 6 .pure, .op 8 .pure, .op 9 .pure, .op 10 .pure, .op 7 .load, .op 11 .load, .op 12 .eff, .op 13 .pure, .op 14 .pure]) (.seq .none .none)) (.block .none)))) (.seq (.seq .none (.seq (.seq (.draw [.op 0 .pure, .op 1 .pure, .op 2 .pure, .op 3 .pure, .op 4 .pure, .op 5 .pure, .op 6 .pure, .op 8 .pure, .op 9 .pure, .op 10 .pure, .op 7 .load, .op 11 .load, .op 12 .pure, .op 13 .eff, .op 14 .pure, .op 15 .eff]) (.seq .none .none)) .none)) (.seq (.draw [.op 0 .pure, .op 1 .pure, .op 2 .pure, .op 3 .pure, .op 4 .pure, .op 5 .pure, .op 6 .pure, .op 8 .pure, .op 9 .pure, .op 10 .pure, .op 7 .load, .op 11 .load, .op 12 .pure, .op 13 .eff, .op 14 .pure, .op 15 .eff]) (.seq .none (.seq .none (.seq (.block (.loop 11417981541647678414640987641481260342710373376 [10, 11] (.block (.seq (.block (.loop 41537741042978506913543222282159104 [10] (.seq (.seq (.draw [.op 0 .pure, .op 1 .pure, .op 2 .pure, .op 3 .pure, .op 4 .pure, .op 5 .pure, .op 6 .pure, .op 8 .pure, .op 9 .pure, .op 10 .pure, .op 7 .load, .op 11 .load, .op 12 .eff, .op 13 .pure]) (.seq .none .none)) (.block .none)))) (.seq (.block (.loop 5444476332360147136792965474937657624576 [11] (.seq (.seq (.draw [.op 0 .pure, .op 1 .pure, .op 2 .pure, .op 3 .pure, .op 4 .pure, .op 5 .pure, .op 6 .pure, .op 8 .pure, .op 9 .pure, .op 10 .pure, .op 7 .load, .op 11 .load, .op 12 .eff, .op 13 .pure, .op 14 .pure]) (.seq .none .none)) (.block .none)))) (.seq (.seq .none (.seq .none .none)) (.seq (.draw [.op 0 .pure, .op 1 .pure, .op 2 .pure, .op 3 .pure, .op 4 .pure, .op 5 .pure, .op 6 .pure, .op 8 .pure, .op 9 .pure, .op 10 .pure, .op 7 .load, .op 11 .load, .op 12 .pure, .op 13 .eff, .op 14 .pure, .op 15 .eff]) (.seq .none .none)))))))) (.seq (.draw [.op 0 .pure, .op 1 .pure, .op 2 .pure, .op 3 .pure, .op 4 .pure, .op 5 .pure, .op 6 .pure, .op 8 .pure, .op 9 .pure, .op 10 .pure, .op 7 .load, .op 11 .load, .op 12 .pure, .op 13 .eff, .op 14 .pure, .op 15 .eff]) (.seq .none .none))))))))))))
theorem T119_ok : chkFn prog Tryz.f119 T119 = true := by kernel_rfl
def B119 (data_p0 a_p1 b_p2 pivot_p3 : Value) (w : World) (K : Value → World → Prop) : Prop :=
  dr w fun w =>
  pvv prog (Instr.indexAt 23 data_p0 pivot_p3) w fun t_0 w =>
  pvv prog (Instr.indexAt 23 data_p0 a_p1) w fun t_1 w =>
  bindS (vN (Instr.loadAt 3 t_0)) fun m_3 => ldv prog (Instr.loadAt 3 t_0) w fun t_2 w =>
  bindS (vN (Instr.loadAt 3 t_1)) fun m_5 => ldv prog (Instr.loadAt 3 t_1) w fun t_4 w =>
  pvv prog (Instr.indexAt 23 data_p0 a_p1) w fun t_6 w =>
  efu prog (Instr.storeAt 3 t_6 t_2) w fun u_7 w =>
  pvv prog (Instr.indexAt 23 data_p0 pivot_p3) w fun t_8 w =>
  efu prog (Instr.storeAt 3 t_8 t_4) w fun u_9 w =>
  pvv prog (binOp .add 3 a_p1 (.int .i64 1)) w fun t_10 w =>
  pvv prog (binOp .sub 3 b_p2 (.int .i64 1)) w fun t_11 w =>
  lp (fun σ w again_13 => pop σ fun i_12 σ => fin σ <|
    dr w fun w =>
    pvv prog (binOp .leq 3 i_12 t_11) w fun t_14 w =>
    gate (some (t_14, true)) (fun K => K data_p0 w) w fun t_15 w =>
    gate (some (t_14, true)) (fun K => K i_12 w) w fun t_16 w =>
    gate (some (t_14, true)) (fun K => pvv prog (Instr.indexAt 23 t_15 t_16) w K) w fun t_17 w =>
    gate (some (t_14, true)) (fun K => K data_p0 w) w fun t_18 w =>
    gate (some (t_14, true)) (fun K => K a_p1 w) w fun t_19 w =>
    gate (some (t_14, true)) (fun K => pvv prog (Instr.indexAt 23 t_18 t_19) w K) w fun t_20 w =>
    bindS (vN (Instr.loadAt 3 t_17)) fun m_22 => gate (some (t_14, true)) (fun K => ldv prog (Instr.loadAt 3 t_17) w K) w fun t_21 w =>
    bindS (vN (Instr.loadAt 3 t_20)) fun m_24 => gate (some (t_14, true)) (fun K => ldv prog (Instr.loadAt 3 t_20) w K) w fun t_23 w =>
    gate (some (t_14, true)) (fun K => Calls prog 117 #[t_21, t_23] w (Ret fun s_138 w => K s_138 w)) w fun t_25 w =>
    pv prog (oPick t_14 t_25 (.bool false)) w fun t_26 w =>
    cd t_26 (
      pvv prog (binOp .add 3 i_12 (.int .i64 1)) w fun t_27 w =>
      again_13 [t_27] w) <|
    lp (fun σ w again_29 => pop σ fun j_28 σ => fin σ <|
      dr w fun w =>
      pvv prog (binOp .leq 3 i_12 j_28) w fun t_30 w =>
      gate (some (t_30, true)) (fun K => K data_p0 w) w fun t_31 w =>
      gate (some (t_30, true)) (fun K => K j_28 w) w fun t_32 w =>
      gate (some (t_30, true)) (fun K => pvv prog (Instr.indexAt 23 t_31 t_32) w K) w fun t_33 w =>
      gate (some (t_30, true)) (fun K => K data_p0 w) w fun t_34 w =>
      gate (some (t_30, true)) (fun K => K a_p1 w) w fun t_35 w =>
      gate (some (t_30, true)) (fun K => pvv prog (Instr.indexAt 23 t_34 t_35) w K) w fun t_36 w =>
      bindS (vN (Instr.loadAt 3 t_33)) fun m_38 => gate (some (t_30, true)) (fun K => ldv prog (Instr.loadAt 3 t_33) w K) w fun t_37 w =>
      bindS (vN (Instr.loadAt 3 t_36)) fun m_40 => gate (some (t_30, true)) (fun K => ldv prog (Instr.loadAt 3 t_36) w K) w fun t_39 w =>
      gate (some (t_30, true)) (fun K => Calls prog 117 #[t_37, t_39] w (Ret fun s_137 w => K s_137 w)) w fun t_41 w =>
      gate (some (t_30, true)) (fun K => pvv prog (Op.unary .not t_41) w K) w fun t_42 w =>
      pv prog (oPick t_30 t_42 (.bool false)) w fun t_43 w =>
      cd t_43 (
        pvv prog (binOp .sub 3 j_28 (.int .i64 1)) w fun t_44 w =>
        again_29 [t_44] w) <|
      pvv prog (binOp .gtr 3 i_12 j_28) w fun t_45 w =>
      cd t_45 (
        dr w fun w =>
        pvv prog (Instr.indexAt 23 data_p0 a_p1) w fun t_46 w =>
        pvv prog (Instr.indexAt 23 data_p0 j_28) w fun t_47 w =>
        bindS (vN (Instr.loadAt 3 t_46)) fun m_49 => ldv prog (Instr.loadAt 3 t_46) w fun t_48 w =>
        bindS (vN (Instr.loadAt 3 t_47)) fun m_51 => ldv prog (Instr.loadAt 3 t_47) w fun t_50 w =>
        pvv prog (Instr.indexAt 23 data_p0 j_28) w fun t_52 w =>
        efu prog (Instr.storeAt 3 t_52 t_48) w fun u_53 w =>
        pvv prog (Instr.indexAt 23 data_p0 a_p1) w fun t_54 w =>
        efu prog (Instr.storeAt 3 t_54 t_50) w fun u_55 w =>
        K (.tuple #[j_28, (.bool true)]) w) <|
      dr w fun w =>
      pvv prog (Instr.indexAt 23 data_p0 j_28) w fun t_58 w =>
      pvv prog (Instr.indexAt 23 data_p0 i_12) w fun t_59 w =>
      bindS (vN (Instr.loadAt 3 t_58)) fun m_61 => ldv prog (Instr.loadAt 3 t_58) w fun t_60 w =>
      bindS (vN (Instr.loadAt 3 t_59)) fun m_63 => ldv prog (Instr.loadAt 3 t_59) w fun t_62 w =>
      pvv prog (Instr.indexAt 23 data_p0 i_12) w fun t_64 w =>
      efu prog (Instr.storeAt 3 t_64 t_60) w fun u_65 w =>
      pvv prog (Instr.indexAt 23 data_p0 j_28) w fun t_66 w =>
      efu prog (Instr.storeAt 3 t_66 t_62) w fun u_67 w =>
      pvv prog (binOp .add 3 i_12 (.int .i64 1)) w fun t_68 w =>
      pvv prog (binOp .sub 3 j_28 (.int .i64 1)) w fun t_69 w =>
      lp (fun σ w again_72 => pop σ fun i_70 σ => pop σ fun j_71 σ => fin σ <|
        lp (fun σ w again_74 => pop σ fun i_73 σ => fin σ <|
          dr w fun w =>
          pvv prog (binOp .leq 3 i_73 j_71) w fun t_75 w =>
          gate (some (t_75, true)) (fun K => K data_p0 w) w fun t_76 w =>
          gate (some (t_75, true)) (fun K => K i_73 w) w fun t_77 w =>
          gate (some (t_75, true)) (fun K => pvv prog (Instr.indexAt 23 t_76 t_77) w K) w fun t_78 w =>
          gate (some (t_75, true)) (fun K => K data_p0 w) w fun t_79 w =>
          gate (some (t_75, true)) (fun K => K a_p1 w) w fun t_80 w =>
          gate (some (t_75, true)) (fun K => pvv prog (Instr.indexAt 23 t_79 t_80) w K) w fun t_81 w =>
          bindS (vN (Instr.loadAt 3 t_78)) fun m_83 => gate (some (t_75, true)) (fun K => ldv prog (Instr.loadAt 3 t_78) w K) w fun t_82 w =>
          bindS (vN (Instr.loadAt 3 t_81)) fun m_85 => gate (some (t_75, true)) (fun K => ldv prog (Instr.loadAt 3 t_81) w K) w fun t_84 w =>
          gate (some (t_75, true)) (fun K => Calls prog 117 #[t_82, t_84] w (Ret fun s_134 w => K s_134 w)) w fun t_86 w =>
          pv prog (oPick t_75 t_86 (.bool false)) w fun t_87 w =>
          cd t_87 (
            pvv prog (binOp .add 3 i_73 (.int .i64 1)) w fun t_88 w =>
            again_74 [t_88] w) <|
          lp (fun σ w again_90 => pop σ fun j_89 σ => fin σ <|
            dr w fun w =>
            pvv prog (binOp .leq 3 i_73 j_89) w fun t_91 w =>
            gate (some (t_91, true)) (fun K => K data_p0 w) w fun t_92 w =>
            gate (some (t_91, true)) (fun K => K j_89 w) w fun t_93 w =>
            gate (some (t_91, true)) (fun K => pvv prog (Instr.indexAt 23 t_92 t_93) w K) w fun t_94 w =>
            gate (some (t_91, true)) (fun K => K data_p0 w) w fun t_95 w =>
            gate (some (t_91, true)) (fun K => K a_p1 w) w fun t_96 w =>
            gate (some (t_91, true)) (fun K => pvv prog (Instr.indexAt 23 t_95 t_96) w K) w fun t_97 w =>
            bindS (vN (Instr.loadAt 3 t_94)) fun m_99 => gate (some (t_91, true)) (fun K => ldv prog (Instr.loadAt 3 t_94) w K) w fun t_98 w =>
            bindS (vN (Instr.loadAt 3 t_97)) fun m_101 => gate (some (t_91, true)) (fun K => ldv prog (Instr.loadAt 3 t_97) w K) w fun t_100 w =>
            gate (some (t_91, true)) (fun K => Calls prog 117 #[t_98, t_100] w (Ret fun s_133 w => K s_133 w)) w fun t_102 w =>
            gate (some (t_91, true)) (fun K => pvv prog (Op.unary .not t_102) w K) w fun t_103 w =>
            pv prog (oPick t_91 t_103 (.bool false)) w fun t_104 w =>
            cd t_104 (
              pvv prog (binOp .sub 3 j_89 (.int .i64 1)) w fun t_105 w =>
              again_90 [t_105] w) <|
            pvv prog (binOp .gtr 3 i_73 j_89) w fun t_106 w =>
            cd t_106 (
              dr w fun w =>
              pvv prog (Instr.indexAt 23 data_p0 a_p1) w fun t_107 w =>
              pvv prog (Instr.indexAt 23 data_p0 j_89) w fun t_108 w =>
              bindS (vN (Instr.loadAt 3 t_107)) fun m_110 => ldv prog (Instr.loadAt 3 t_107) w fun t_109 w =>
              bindS (vN (Instr.loadAt 3 t_108)) fun m_112 => ldv prog (Instr.loadAt 3 t_108) w fun t_111 w =>
              pvv prog (Instr.indexAt 23 data_p0 j_89) w fun t_113 w =>
              efu prog (Instr.storeAt 3 t_113 t_109) w fun u_114 w =>
              pvv prog (Instr.indexAt 23 data_p0 a_p1) w fun t_115 w =>
              efu prog (Instr.storeAt 3 t_115 t_111) w fun u_116 w =>
              K (.tuple #[j_89, (.bool false)]) w) <|
            dr w fun w =>
            pvv prog (Instr.indexAt 23 data_p0 j_89) w fun t_119 w =>
            pvv prog (Instr.indexAt 23 data_p0 i_73) w fun t_120 w =>
            bindS (vN (Instr.loadAt 3 t_119)) fun m_122 => ldv prog (Instr.loadAt 3 t_119) w fun t_121 w =>
            bindS (vN (Instr.loadAt 3 t_120)) fun m_124 => ldv prog (Instr.loadAt 3 t_120) w fun t_123 w =>
            pvv prog (Instr.indexAt 23 data_p0 i_73) w fun t_125 w =>
            efu prog (Instr.storeAt 3 t_125 t_121) w fun u_126 w =>
            pvv prog (Instr.indexAt 23 data_p0 j_89) w fun t_127 w =>
            efu prog (Instr.storeAt 3 t_127 t_123) w fun u_128 w =>
            pvv prog (binOp .add 3 i_73 (.int .i64 1)) w fun t_129 w =>
            pvv prog (binOp .sub 3 j_89 (.int .i64 1)) w fun t_130 w =>
            again_72 [t_129, t_130] w) [j_71] w) [i_70] w) [t_68, t_69] w) [t_11] w) [t_10] w
theorem B119_eq (data_p0 a_p1 b_p2 pivot_p3 : Value) (w : World) (K : Value → World → Prop) : denFn prog Tryz.f119 T119 [data_p0, a_p1, b_p2, pivot_p3] w K = B119 data_p0 a_p1 b_p2 pivot_p3 w K := by kernel_rfl
theorem c119 {data_p0 a_p1 b_p2 pivot_p3 : Value} {w : World} {K : Value → World → Prop} (h : B119 data_p0 a_p1 b_p2 pivot_p3 w K) : Calls prog 119 #[data_p0, a_p1, b_p2, pivot_p3] w (Ret K) :=
  denFn_calls Tryz.func119 T119_ok (Eq.mpr (B119_eq data_p0 a_p1 b_p2 pivot_p3 w K) h)

-- 99 slices.pdqsortOrdered[int]
def T99 : Ann := (.seq .none (.seq .none (.block (.loop 21778071482940061661655974875633165532942 [1, 2, 3, 8, 9] (.block (.seq .none (.seq (.seq .none (.seq (.seq .none .none) .none)) (.seq (.seq .none (.seq (.seq .none .none) .none)) (.meet 4380866641928 [3] (.seq .none (.seq (.seq .none .none) .none)) (.seq .none (.meet 2305280059260278784 [11, 12] (.seq .none (.seq (.seq .none (.seq .none .none)) .none)) (.meet 9442427122730076733440 [] (.seq .none (.seq (.seq .none (.seq .none .none)) .none)) (.seq (.seq (.draw [.op 0 .pure, .op 1 .pure, .op 2 .pure, .op 3 .pure, .op 4 .pure, .op 5 .pure, .op 6 .pure, .op 8 .pure, .op 9 .pure, .op 10 .pure, .op 7 .load, .op 11 .load, .op 12 .eff, .op 13 .pure, .op 14 .pure]) (.seq (.seq .none (.seq .none .none)) .none)) (.seq .none (.seq .none (.seq .none (.seq .none (.seq .none (.seq (.seq .none (.seq .none .none)) (.seq .none (.seq .none .none)))))))))))))))))))))
theorem T99_ok : chkFn prog Tryz.f99 T99 = true := by kernel_rfl
def B99 (data_p0 a_p1 b_p2 limit_p3 : Value) (w : World) (K : Value → World → Prop) : Prop :=
  lp (fun σ w again_5 => pop σ fun a_0 σ => pop σ fun b_1 σ => pop σ fun limit_2 σ => pop σ fun wasBalanced_3 σ => pop σ fun wasPartitioned_4 σ => fin σ <|
    pvv prog (binOp .sub 3 b_1 a_0) w fun t_6 w =>
    pvv prog (binOp .leq 3 t_6 (.int .i64 12)) w fun t_7 w =>
    cd t_7 (
      Calls prog 111 #[data_p0, a_0, b_1] w (Ret fun t_8 w =>
      K (.tuple #[]) w)) <|
    pvv prog (oEq .eql 3 (.tmp 28) (.const (.int .i64 0)) limit_2 (.int .i64 0)) w fun t_9 w =>
    cd t_9 (
      Calls prog 112 #[data_p0, a_0, b_1] w (Ret fun t_10 w =>
      K (.tuple #[]) w)) <|
    jn (fun σ w => pop σ fun limit_11 σ => fin σ <|
      Calls prog 114 #[data_p0, a_0, b_1] w (Ret fun t_12 w =>
      pvv prog (Instr.extract t_12 0) w fun t_13 w =>
      pvv prog (Instr.extract t_12 1) w fun t_14 w =>
      jn (fun σ w => pop σ fun pivot_15 σ => pop σ fun hint_16 σ => fin σ <|
        jn (fun σ w => fin σ <|
          dr w fun w =>
          pvv prog (binOp .gtr 3 a_0 (.int .i64 0)) w fun t_17 w =>
          gate (some (t_17, true)) (fun K => K data_p0 w) w fun t_18 w =>
          gate (some (t_17, true)) (fun K => K a_0 w) w fun t_19 w =>
          gate (some (t_17, true)) (fun K => pvv prog (binOp .sub 3 t_19 (.int .i64 1)) w K) w fun t_20 w =>
          gate (some (t_17, true)) (fun K => pvv prog (Instr.indexAt 23 t_18 t_20) w K) w fun t_21 w =>
          gate (some (t_17, true)) (fun K => K data_p0 w) w fun t_22 w =>
          gate (some (t_17, true)) (fun K => K pivot_15 w) w fun t_23 w =>
          gate (some (t_17, true)) (fun K => pvv prog (Instr.indexAt 23 t_22 t_23) w K) w fun t_24 w =>
          bindS (vN (Instr.loadAt 3 t_21)) fun m_26 => gate (some (t_17, true)) (fun K => ldv prog (Instr.loadAt 3 t_21) w K) w fun t_25 w =>
          bindS (vN (Instr.loadAt 3 t_24)) fun m_28 => gate (some (t_17, true)) (fun K => ldv prog (Instr.loadAt 3 t_24) w K) w fun t_27 w =>
          gate (some (t_17, true)) (fun K => Calls prog 117 #[t_25, t_27] w (Ret fun s_46 w => K s_46 w)) w fun t_29 w =>
          gate (some (t_17, true)) (fun K => pvv prog (Op.unary .not t_29) w K) w fun t_30 w =>
          pv prog (oPick t_17 t_30 (.bool false)) w fun t_31 w =>
          cd t_31 (
            Calls prog 118 #[data_p0, a_0, b_1, pivot_15] w (Ret fun t_32 w =>
            again_5 [t_32, b_1, limit_11, wasBalanced_3, wasPartitioned_4] w)) <|
          Calls prog 119 #[data_p0, a_0, b_1, pivot_15] w (Ret fun t_33 w =>
          pvv prog (Instr.extract t_33 0) w fun t_34 w =>
          pvv prog (Instr.extract t_33 1) w fun t_35 w =>
          pvv prog (binOp .sub 3 t_34 a_0) w fun t_36 w =>
          pvv prog (binOp .sub 3 b_1 t_34) w fun t_37 w =>
          pvv prog (binOp .quo 3 t_6 (.int .i64 8)) w fun t_38 w =>
          pvv prog (binOp .lss 3 t_36 t_37) w fun t_39 w =>
          cd t_39 (
            pvv prog (binOp .geq 3 t_36 t_38) w fun t_40 w =>
            Calls prog 99 #[data_p0, a_0, t_34, limit_11] w (Ret fun t_41 w =>
            pvv prog (binOp .add 3 t_34 (.int .i64 1)) w fun t_42 w =>
            again_5 [t_42, b_1, limit_11, t_40, t_35] w)) <|
          pvv prog (binOp .geq 3 t_37 t_38) w fun t_43 w =>
          pvv prog (binOp .add 3 t_34 (.int .i64 1)) w fun t_44 w =>
          Calls prog 99 #[data_p0, t_44, b_1, limit_11] w (Ret fun t_45 w =>
          again_5 [a_0, t_34, limit_11, t_43, t_35] w))) fun k_47 =>
        gate (some (wasBalanced_3, true)) (fun K => K wasPartitioned_4 w) w fun t_48 w =>
        pv prog (oPick wasBalanced_3 t_48 (.bool false)) w fun t_49 w =>
        gate (some (t_49, true)) (fun K => K hint_16 w) w fun t_50 w =>
        gate (some (t_49, true)) (fun K => pvv prog (oEq .eql 113 (.tmp 66) (.const (.int .i64 1)) t_50 (.int .i64 1)) w K) w fun t_51 w =>
        pv prog (oPick t_49 t_51 (.bool false)) w fun t_52 w =>
        cd t_52 (
          Calls prog 116 #[data_p0, a_0, b_1] w (Ret fun t_53 w =>
          cd t_53 (
            K (.tuple #[]) w) <|
          k_47 [] w)) <|
        k_47 [] w) fun k_54 =>
      pvv prog (oEq .eql 113 (.tmp 49) (.const (.int .i64 2)) t_14 (.int .i64 2)) w fun t_55 w =>
      cd t_55 (
        Calls prog 115 #[data_p0, a_0, b_1] w (Ret fun t_56 w =>
        pvv prog (binOp .sub 3 b_1 (.int .i64 1)) w fun t_57 w =>
        pvv prog (binOp .sub 3 t_13 a_0) w fun t_58 w =>
        pvv prog (binOp .sub 3 t_57 t_58) w fun t_59 w =>
        k_54 [t_59, (.int .i64 1)] w)) <|
      k_54 [t_13, t_14] w)) fun k_60 =>
    pvv prog (Op.unary .not wasBalanced_3) w fun t_61 w =>
    cd t_61 (
      Calls prog 113 #[data_p0, a_0, b_1] w (Ret fun t_62 w =>
      pvv prog (binOp .sub 3 limit_2 (.int .i64 1)) w fun t_63 w =>
      k_60 [t_63] w)) <|
    k_60 [limit_2] w) [a_p1, b_p2, limit_p3, (.bool true), (.bool true)] w
theorem B99_eq (data_p0 a_p1 b_p2 limit_p3 : Value) (w : World) (K : Value → World → Prop) : denFn prog Tryz.f99 T99 [data_p0, a_p1, b_p2, limit_p3] w K = B99 data_p0 a_p1 b_p2 limit_p3 w K := by kernel_rfl
theorem c99 {data_p0 a_p1 b_p2 limit_p3 : Value} {w : World} {K : Value → World → Prop} (h : B99 data_p0 a_p1 b_p2 limit_p3 w K) : Calls prog 99 #[data_p0, a_p1, b_p2, limit_p3] w (Ret K) :=
  denFn_calls Tryz.func99 T99_ok (Eq.mpr (B99_eq data_p0 a_p1 b_p2 limit_p3 w K) h)

-- 118 slices.partitionEqualOrdered[int]
def T118 : Ann := (.seq .none (.seq (.draw [.op 0 .pure, .op 1 .pure, .op 2 .pure, .op 3 .pure, .op 4 .pure, .op 5 .pure, .op 6 .pure, .op 8 .pure, .op 9 .pure, .op 10 .pure, .op 7 .load, .op 11 .load, .op 12 .pure, .op 13 .eff, .op 14 .pure, .op 15 .eff]) (.seq .none (.seq (.block (.loop 9671406556917032860780032 [9, 10] (.block (.seq (.block (.loop 70368207307264 [9] (.seq (.seq (.draw [.op 0 .pure, .op 1 .pure, .op 2 .pure, .op 3 .pure, .op 4 .pure, .op 5 .pure, .op 6 .pure, .op 8 .pure, .op 9 .pure, .op 10 .pure, .op 7 .load, .op 11 .load, .op 12 .eff, .op 13 .pure, .op 14 .pure]) (.seq .none .none)) (.block .none)))) (.seq (.block (.loop 4611615649683211264 [10] (.seq (.seq (.draw [.op 0 .pure, .op 1 .pure, .op 2 .pure, .op 3 .pure, .op 4 .pure, .op 5 .pure, .op 6 .pure, .op 8 .pure, .op 9 .pure, .op 10 .pure, .op 7 .load, .op 11 .load, .op 12 .eff, .op 13 .pure]) (.seq .none .none)) (.block .none)))) (.seq (.seq .none (.seq .none .none)) (.seq (.draw [.op 0 .pure, .op 1 .pure, .op 2 .pure, .op 3 .pure, .op 4 .pure, .op 5 .pure, .op 6 .pure, .op 8 .pure, .op 9 .pure, .op 10 .pure, .op 7 .load, .op 11 .load, .op 12 .pure, .op 13 .eff, .op 14 .pure, .op 15 .eff]) (.seq .none .none)))))))) (.seq .none .none)))))
theorem T118_ok : chkFn prog Tryz.f118 T118 = true := by kernel_rfl
def B118 (data_p0 a_p1 b_p2 pivot_p3 : Value) (w : World) (K : Value → World → Prop) : Prop :=
  dr w fun w =>
  pvv prog (Instr.indexAt 23 data_p0 pivot_p3) w fun t_0 w =>
  pvv prog (Instr.indexAt 23 data_p0 a_p1) w fun t_1 w =>
  bindS (vN (Instr.loadAt 3 t_0)) fun m_3 => ldv prog (Instr.loadAt 3 t_0) w fun t_2 w =>
  bindS (vN (Instr.loadAt 3 t_1)) fun m_5 => ldv prog (Instr.loadAt 3 t_1) w fun t_4 w =>
  pvv prog (Instr.indexAt 23 data_p0 a_p1) w fun t_6 w =>
  efu prog (Instr.storeAt 3 t_6 t_2) w fun u_7 w =>
  pvv prog (Instr.indexAt 23 data_p0 pivot_p3) w fun t_8 w =>
  efu prog (Instr.storeAt 3 t_8 t_4) w fun u_9 w =>
  pvv prog (binOp .add 3 a_p1 (.int .i64 1)) w fun t_10 w =>
  pvv prog (binOp .sub 3 b_p2 (.int .i64 1)) w fun t_11 w =>
  lp (fun σ w again_14 => pop σ fun i_12 σ => pop σ fun j_13 σ => fin σ <|
    lp (fun σ w again_16 => pop σ fun i_15 σ => fin σ <|
      dr w fun w =>
      pvv prog (binOp .leq 3 i_15 j_13) w fun t_17 w =>
      gate (some (t_17, true)) (fun K => K data_p0 w) w fun t_18 w =>
      gate (some (t_17, true)) (fun K => K a_p1 w) w fun t_19 w =>
      gate (some (t_17, true)) (fun K => pvv prog (Instr.indexAt 23 t_18 t_19) w K) w fun t_20 w =>
      gate (some (t_17, true)) (fun K => K data_p0 w) w fun t_21 w =>
      gate (some (t_17, true)) (fun K => K i_15 w) w fun t_22 w =>
      gate (some (t_17, true)) (fun K => pvv prog (Instr.indexAt 23 t_21 t_22) w K) w fun t_23 w =>
      bindS (vN (Instr.loadAt 3 t_20)) fun m_25 => gate (some (t_17, true)) (fun K => ldv prog (Instr.loadAt 3 t_20) w K) w fun t_24 w =>
      bindS (vN (Instr.loadAt 3 t_23)) fun m_27 => gate (some (t_17, true)) (fun K => ldv prog (Instr.loadAt 3 t_23) w K) w fun t_26 w =>
      gate (some (t_17, true)) (fun K => Calls prog 117 #[t_24, t_26] w (Ret fun s_64 w => K s_64 w)) w fun t_28 w =>
      gate (some (t_17, true)) (fun K => pvv prog (Op.unary .not t_28) w K) w fun t_29 w =>
      pv prog (oPick t_17 t_29 (.bool false)) w fun t_30 w =>
      cd t_30 (
        pvv prog (binOp .add 3 i_15 (.int .i64 1)) w fun t_31 w =>
        again_16 [t_31] w) <|
      lp (fun σ w again_33 => pop σ fun j_32 σ => fin σ <|
        dr w fun w =>
        pvv prog (binOp .leq 3 i_15 j_32) w fun t_34 w =>
        gate (some (t_34, true)) (fun K => K data_p0 w) w fun t_35 w =>
        gate (some (t_34, true)) (fun K => K a_p1 w) w fun t_36 w =>
        gate (some (t_34, true)) (fun K => pvv prog (Instr.indexAt 23 t_35 t_36) w K) w fun t_37 w =>
        gate (some (t_34, true)) (fun K => K data_p0 w) w fun t_38 w =>
        gate (some (t_34, true)) (fun K => K j_32 w) w fun t_39 w =>
        gate (some (t_34, true)) (fun K => pvv prog (Instr.indexAt 23 t_38 t_39) w K) w fun t_40 w =>
        bindS (vN (Instr.loadAt 3 t_37)) fun m_42 => gate (some (t_34, true)) (fun K => ldv prog (Instr.loadAt 3 t_37) w K) w fun t_41 w =>
        bindS (vN (Instr.loadAt 3 t_40)) fun m_44 => gate (some (t_34, true)) (fun K => ldv prog (Instr.loadAt 3 t_40) w K) w fun t_43 w =>
        gate (some (t_34, true)) (fun K => Calls prog 117 #[t_41, t_43] w (Ret fun s_63 w => K s_63 w)) w fun t_45 w =>
        pv prog (oPick t_34 t_45 (.bool false)) w fun t_46 w =>
        cd t_46 (
          pvv prog (binOp .sub 3 j_32 (.int .i64 1)) w fun t_47 w =>
          again_33 [t_47] w) <|
        pvv prog (binOp .gtr 3 i_15 j_32) w fun t_48 w =>
        cd t_48 (
          K i_15 w) <|
        dr w fun w =>
        pvv prog (Instr.indexAt 23 data_p0 j_32) w fun t_49 w =>
        pvv prog (Instr.indexAt 23 data_p0 i_15) w fun t_50 w =>
        bindS (vN (Instr.loadAt 3 t_49)) fun m_52 => ldv prog (Instr.loadAt 3 t_49) w fun t_51 w =>
        bindS (vN (Instr.loadAt 3 t_50)) fun m_54 => ldv prog (Instr.loadAt 3 t_50) w fun t_53 w =>
        pvv prog (Instr.indexAt 23 data_p0 i_15) w fun t_55 w =>
        efu prog (Instr.storeAt 3 t_55 t_51) w fun u_56 w =>
        pvv prog (Instr.indexAt 23 data_p0 j_32) w fun t_57 w =>
        efu prog (Instr.storeAt 3 t_57 t_53) w fun u_58 w =>
        pvv prog (binOp .add 3 i_15 (.int .i64 1)) w fun t_59 w =>
        pvv prog (binOp .sub 3 j_32 (.int .i64 1)) w fun t_60 w =>
        again_14 [t_59, t_60] w) [j_13] w) [i_12] w) [t_10, t_11] w
theorem B118_eq (data_p0 a_p1 b_p2 pivot_p3 : Value) (w : World) (K : Value → World → Prop) : denFn prog Tryz.f118 T118 [data_p0, a_p1, b_p2, pivot_p3] w K = B118 data_p0 a_p1 b_p2 pivot_p3 w K := by kernel_rfl
theorem c118 {data_p0 a_p1 b_p2 pivot_p3 : Value} {w : World} {K : Value → World → Prop} (h : B118 data_p0 a_p1 b_p2 pivot_p3 w K) : Calls prog 118 #[data_p0, a_p1, b_p2, pivot_p3] w (Ret K) :=
  denFn_calls Tryz.func118 T118_ok (Eq.mpr (B118_eq data_p0 a_p1 b_p2 pivot_p3 w K) h)

-- 61 (*holdfast/holdfastref12.Store).drop
def T61 : Ann := (.seq .none (.seq (.seq .none (.block (.loop 137438953264 [4, 5] (.seq (.seq .none (.seq .none .none)) (.meet 137438822416 [4] (.block (.seq .none (.seq .none .none))) .none))))) (.seq .none (.seq (.seq .none (.block (.loop 73786976157399253184 [6, 7] (.seq (.seq .none (.seq .none .none)) (.meet 73786905926094028864 [6] (.block (.seq .none (.seq .none .none))) .none))))) .none))))
theorem T61_ok : chkFn prog Tryz.f61 T61 = true := by kernel_rfl
def B61 (s_p0 id_p1 : Value) (w : World) (K : Value → World → Prop) : Prop :=
  lp (fun σ w again_2 => pop σ fun f_0 σ => pop σ fun i_1 σ => fin σ <|
    pv prog (oNil s_p0) w fun t_3 w =>
    pvv prog (Instr.fieldAt 69 t_3 3) w fun t_4 w =>
    ldv prog (Instr.loadAt 43 t_4) w fun t_5 w =>
    pv prog (oBi .len #[43] 3 #[false] #[t_5]) w fun t_6 w =>
    pvv prog (binOp .lss 3 i_1 t_6) w fun t_7 w =>
    cd t_7 (
      jn (fun σ w => pop σ fun f_8 σ => fin σ <|
        pvv prog (binOp .add 3 i_1 (.int .i64 1)) w fun t_9 w =>
        again_2 [f_8, t_9] w) fun k_10 =>
      pv prog (oNil s_p0) w fun t_11 w =>
      pvv prog (Instr.fieldAt 69 t_11 3) w fun t_12 w =>
      ldv prog (Instr.loadAt 43 t_12) w fun t_13 w =>
      pvv prog (Instr.indexAt 43 t_13 i_1) w fun t_14 w =>
      pvv prog (Instr.fieldAt 35 t_14 0) w fun t_15 w =>
      ldv prog (Instr.loadAt 3 t_15) w fun t_16 w =>
      pvv prog (oEq .neq 3 (.tmp 24) (.tmp 25) t_16 id_p1) w fun t_17 w =>
      cd t_17 (
        pv prog (oNil s_p0) w fun t_18 w =>
        pvv prog (Instr.fieldAt 69 t_18 3) w fun t_19 w =>
        ldv prog (Instr.loadAt 43 t_19) w fun t_20 w =>
        pvv prog (Instr.indexAt 43 t_20 i_1) w fun t_21 w =>
        ldv prog (Instr.loadAt 35 t_21) w fun t_22 w =>
        efv prog (Instr.buildSlice 43 1 #[(0, t_22)]) w fun t_23 w =>
        ef prog (oBi .append #[43, 43] 43 #[false, false] #[f_0, t_23]) w fun t_24 w =>
        k_10 [t_24] w) <|
      k_10 [f_0] w) <|
    lp (fun σ w again_27 => pop σ fun t_25 σ => pop σ fun i_26 σ => fin σ <|
      pv prog (oNil s_p0) w fun t_28 w =>
      pvv prog (Instr.fieldAt 69 t_28 4) w fun t_29 w =>
      ldv prog (Instr.loadAt 41 t_29) w fun t_30 w =>
      pv prog (oBi .len #[41] 3 #[false] #[t_30]) w fun t_31 w =>
      pvv prog (binOp .lss 3 i_26 t_31) w fun t_32 w =>
      cd t_32 (
        jn (fun σ w => pop σ fun t_33 σ => fin σ <|
          pvv prog (binOp .add 3 i_26 (.int .i64 1)) w fun t_34 w =>
          again_27 [t_33, t_34] w) fun k_35 =>
        pv prog (oNil s_p0) w fun t_36 w =>
        pvv prog (Instr.fieldAt 69 t_36 4) w fun t_37 w =>
        ldv prog (Instr.loadAt 41 t_37) w fun t_38 w =>
        pvv prog (Instr.indexAt 41 t_38 i_26) w fun t_39 w =>
        pvv prog (Instr.fieldAt 49 t_39 1) w fun t_40 w =>
        ldv prog (Instr.loadAt 3 t_40) w fun t_41 w =>
        pvv prog (oEq .neq 3 (.tmp 53) (.tmp 54) t_41 id_p1) w fun t_42 w =>
        cd t_42 (
          pv prog (oNil s_p0) w fun t_43 w =>
          pvv prog (Instr.fieldAt 69 t_43 4) w fun t_44 w =>
          ldv prog (Instr.loadAt 41 t_44) w fun t_45 w =>
          pvv prog (Instr.indexAt 41 t_45 i_26) w fun t_46 w =>
          ldv prog (Instr.loadAt 49 t_46) w fun t_47 w =>
          efv prog (Instr.buildSlice 41 1 #[(0, t_47)]) w fun t_48 w =>
          ef prog (oBi .append #[41, 41] 41 #[false, false] #[t_25, t_48]) w fun t_49 w =>
          k_35 [t_49] w) <|
        k_35 [t_25] w) <|
      pv prog (oNil s_p0) w fun t_50 w =>
      pvv prog (Instr.fieldAt 69 t_50 3) w fun t_51 w =>
      efu prog (Instr.storeAt 43 t_51 f_0) w fun u_52 w =>
      pv prog (oNil s_p0) w fun t_53 w =>
      pvv prog (Instr.fieldAt 69 t_53 4) w fun t_54 w =>
      efu prog (Instr.storeAt 41 t_54 t_25) w fun u_55 w =>
      K (.tuple #[]) w) [(.slice none 0 0), (.int .i64 0)] w) [(.slice none 0 0), (.int .i64 0)] w
theorem B61_eq (s_p0 id_p1 : Value) (w : World) (K : Value → World → Prop) : denFn prog Tryz.f61 T61 [s_p0, id_p1] w K = B61 s_p0 id_p1 w K := by kernel_rfl
theorem c61 {s_p0 id_p1 : Value} {w : World} {K : Value → World → Prop} (h : B61 s_p0 id_p1 w K) : Calls prog 61 #[s_p0, id_p1] w (Ret K) :=
  denFn_calls Tryz.func61 T61_ok (Eq.mpr (B61_eq s_p0 id_p1 w K) h)

-- 113 slices.breakPatternsOrdered[int]
def T113 : Ann := (.seq .none (.seq .none (.seq (.seq .none (.seq .none (.seq .none (.block (.loop 36893488147351995904 [9] (.seq (.seq .none (.seq .none .none)) (.seq (.block (.seq .none (.meet 138538465100800 [10] (.seq .none (.seq .none .none)) (.draw [.op 0 .pure, .op 1 .pure, .op 2 .pure, .op 3 .pure, .op 4 .pure, .op 5 .pure, .op 6 .pure, .op 7 .pure, .op 8 .pure, .op 9 .pure, .op 10 .pure, .op 12 .pure, .op 13 .pure, .op 14 .pure, .op 11 .load, .op 15 .load, .op 16 .pure, .op 17 .eff, .op 18 .pure, .op 19 .eff])))) .none))))))) .none)))
theorem T113_ok : chkFn prog Tryz.f113 T113 = true := by kernel_rfl
def B113 (data_p0 a_p1 b_p2 : Value) (w : World) (K : Value → World → Prop) : Prop :=
  pvv prog (binOp .sub 3 b_p2 a_p1) w fun t_0 w =>
  pvv prog (binOp .geq 3 t_0 (.int .i64 8)) w fun t_1 w =>
  cd t_1 (
    pvv prog (convert 3 133 t_0) w fun t_2 w =>
    efv prog (Instr.alloc 133 true (.tuple #[])) w fun random_3 w =>
    efu prog (Instr.storeAt 133 random_3 t_2) w fun u_4 w =>
    Calls prog 103 #[t_0] w (Ret fun t_5 w =>
    pvv prog (binOp .quo 3 t_0 (.int .i64 4)) w fun t_6 w =>
    pvv prog (binOp .mul 3 t_6 (.int .i64 2)) w fun t_7 w =>
    pvv prog (binOp .add 3 a_p1 t_7) w fun t_8 w =>
    pvv prog (binOp .sub 3 t_8 (.int .i64 1)) w fun t_9 w =>
    lp (fun σ w again_11 => pop σ fun idx_10 σ => fin σ <|
      pvv prog (binOp .quo 3 t_0 (.int .i64 4)) w fun t_12 w =>
      pvv prog (binOp .mul 3 t_12 (.int .i64 2)) w fun t_13 w =>
      pvv prog (binOp .add 3 a_p1 t_13) w fun t_14 w =>
      pvv prog (binOp .add 3 t_14 (.int .i64 1)) w fun t_15 w =>
      pvv prog (binOp .leq 3 idx_10 t_15) w fun t_16 w =>
      cd t_16 (
        Calls prog 104 #[random_3] w (Ret fun t_17 w =>
        pvv prog (binOp .sub 106 t_5 (.int .u64 1)) w fun t_18 w =>
        pvv prog (binOp .and 106 t_17 t_18) w fun t_19 w =>
        pvv prog (convert 106 3 t_19) w fun t_20 w =>
        jn (fun σ w => pop σ fun other_21 σ => fin σ <|
          dr w fun w =>
          pvv prog (binOp .add 3 a_p1 other_21) w fun t_22 w =>
          pvv prog (binOp .add 3 a_p1 other_21) w fun t_23 w =>
          pvv prog (Instr.indexAt 23 data_p0 t_23) w fun t_24 w =>
          pvv prog (Instr.indexAt 23 data_p0 idx_10) w fun t_25 w =>
          bindS (vN (Instr.loadAt 3 t_24)) fun m_27 => ldv prog (Instr.loadAt 3 t_24) w fun t_26 w =>
          bindS (vN (Instr.loadAt 3 t_25)) fun m_29 => ldv prog (Instr.loadAt 3 t_25) w fun t_28 w =>
          pvv prog (Instr.indexAt 23 data_p0 idx_10) w fun t_30 w =>
          efu prog (Instr.storeAt 3 t_30 t_26) w fun u_31 w =>
          pvv prog (Instr.indexAt 23 data_p0 t_22) w fun t_32 w =>
          efu prog (Instr.storeAt 3 t_32 t_28) w fun u_33 w =>
          pvv prog (binOp .add 3 idx_10 (.int .i64 1)) w fun t_34 w =>
          again_11 [t_34] w) fun k_37 =>
        pvv prog (binOp .geq 3 t_20 t_0) w fun t_38 w =>
        cd t_38 (
          pvv prog (binOp .sub 3 t_20 t_0) w fun t_39 w =>
          k_37 [t_39] w) <|
        k_37 [t_20] w)) <|
      K (.tuple #[]) w) [t_9] w)) <|
  K (.tuple #[]) w
theorem B113_eq (data_p0 a_p1 b_p2 : Value) (w : World) (K : Value → World → Prop) : denFn prog Tryz.f113 T113 [data_p0, a_p1, b_p2] w K = B113 data_p0 a_p1 b_p2 w K := by kernel_rfl
theorem c113 {data_p0 a_p1 b_p2 : Value} {w : World} {K : Value → World → Prop} (h : B113 data_p0 a_p1 b_p2 w K) : Calls prog 113 #[data_p0, a_p1, b_p2] w (Ret K) :=
  denFn_calls Tryz.func113 T113_ok (Eq.mpr (B113_eq data_p0 a_p1 b_p2 w K) h)

-- 110 unicode/utf8.DecodeLastRuneInString
def T110 : Ann := (.seq .none (.seq .none (.seq (.seq .none (.seq (.seq .none .none) .none)) (.seq .none (.seq .none (.seq (.seq .none (.seq (.seq .none .none) .none)) (.seq .none (.meet 17171480608 [5] (.seq .none (.block (.loop 17146314784 [5] (.seq (.seq .none (.seq .none .none)) (.seq (.block (.seq .none (.seq .none .none))) .none))))) (.meet 51539607584 [5] (.seq .none (.seq .none .none)) (.seq .none (.seq (.seq .none (.seq (.seq .none .none) .none)) (.seq .none .none))))))))))))
theorem T110_ok : chkFn prog Tryz.f110 T110 = true := by kernel_rfl
def B110 (s_p0 : Value) (w : World) (K : Value → World → Prop) : Prop :=
  pv prog (oBi .len #[9] 3 #[false] #[s_p0]) w fun t_0 w =>
  pvv prog (oEq .eql 3 (.tmp 9) (.const (.int .i64 0)) t_0 (.int .i64 0)) w fun t_1 w =>
  cd t_1 (
    K (.tuple #[(.int .i32 65533), (.int .i64 0)]) w) <|
  pvv prog (binOp .sub 3 t_0 (.int .i64 1)) w fun t_2 w =>
  pvv prog (Instr.index 9 s_p0 t_2) w fun t_3 w =>
  pvv prog (convert 5 21 t_3) w fun t_4 w =>
  pvv prog (binOp .lss 21 t_4 (.int .i32 128)) w fun t_5 w =>
  cd t_5 (
    K (.tuple #[t_4, (.int .i64 1)]) w) <|
  pvv prog (binOp .sub 3 t_0 (.int .i64 4)) w fun t_6 w =>
  pv prog (oBi .max #[3, 3] 3 #[false, true] #[t_6, (.int .i64 0)]) w fun t_7 w =>
  jn (fun σ w => pop σ fun start_8 σ => fin σ <|
    jn (fun σ w => pop σ fun start_9 σ => fin σ <|
      pvv prog (Instr.sliceAt 9 s_p0 (some start_9) (some t_0) none) w fun t_10 w =>
      Calls prog 108 #[t_10] w (Ret fun t_11 w =>
      pvv prog (Instr.extract t_11 0) w fun t_12 w =>
      pvv prog (Instr.extract t_11 1) w fun t_13 w =>
      pvv prog (binOp .add 3 start_9 t_13) w fun t_14 w =>
      pvv prog (oEq .neq 3 (.tmp 46) (.tmp 47) t_14 t_0) w fun t_15 w =>
      cd t_15 (
        K (.tuple #[(.int .i32 65533), (.int .i64 1)]) w) <|
      K (.tuple #[t_12, t_13]) w)) fun k_16 =>
    pvv prog (binOp .lss 3 start_8 (.int .i64 0)) w fun t_17 w =>
    cd t_17 (
      k_16 [(.int .i64 0)] w) <|
    k_16 [start_8] w) fun k_18 =>
  pvv prog (binOp .sub 3 t_2 (.int .i64 1)) w fun t_19 w =>
  lp (fun σ w again_21 => pop σ fun start_20 σ => fin σ <|
    pvv prog (binOp .geq 3 start_20 t_7) w fun t_22 w =>
    cd t_22 (
      pvv prog (Instr.index 9 s_p0 start_20) w fun t_23 w =>
      Calls prog 128 #[t_23] w (Ret fun t_24 w =>
      cd t_24 (
        k_18 [start_20] w) <|
      pvv prog (binOp .sub 3 start_20 (.int .i64 1)) w fun t_25 w =>
      again_21 [t_25] w)) <|
    k_18 [start_20] w) [t_19] w
theorem B110_eq (s_p0 : Value) (w : World) (K : Value → World → Prop) : denFn prog Tryz.f110 T110 [s_p0] w K = B110 s_p0 w K := by kernel_rfl
theorem c110 {s_p0 : Value} {w : World} {K : Value → World → Prop} (h : B110 s_p0 w K) : Calls prog 110 #[s_p0] w (Ret K) :=
  denFn_calls Tryz.func110 T110_ok (Eq.mpr (B110_eq s_p0 w K) h)

-- 90 math/bits.Len64
def T90 : Ann := (.seq .none (.meet 125 [0, 2] (.seq .none (.seq (.seq .none .none) .none)) (.meet 8069 [0, 2] (.seq .none (.seq (.seq .none .none) .none)) (.meet 516101 [0, 2] (.seq .none (.seq (.seq .none .none) .none)) (.seq .none .none)))))
theorem T90_ok : chkFn prog Tryz.f90 T90 = true := by kernel_rfl
def B90 (x_p0 : Value) (w : World) (K : Value → World → Prop) : Prop :=
  jn (fun σ w => pop σ fun x_0 σ => pop σ fun n_1 σ => fin σ <|
    jn (fun σ w => pop σ fun x_2 σ => pop σ fun n_3 σ => fin σ <|
      jn (fun σ w => pop σ fun x_4 σ => pop σ fun n_5 σ => fin σ <|
        pvv prog (convert 123 5 x_4) w fun t_6 w =>
        pvv prog (Instr.index 9 (.string ⟨#[0, 1, 2, 2, 3, 3, 3, 3, 4, 4, 4, 4, 4, 4, 4, 4, 5, 5, 5, 5, 5, 5, 5, 5, 5, 5, 5, 5, 5, 5, 5, 5, 6, 6, 6, 6, 6, 6, 6, 6, 6, 6, 6, 6, 6, 6, 6, 6, 6, 6, 6, 6, 6, 6, 6, 6, 6, 6, 6, 6, 6, 6, 6, 6, 7, 7, 7, 7, 7, 7, 7, 7, 7, 7, 7, 7, 7, 7, 7, 7, 7, 7, 7, 7, 7, 7, 7, 7, 7, 7, 7, 7, 7, 7, 7, 7, 7, 7, 7, 7, 7, 7, 7, 7, 7, 7, 7, 7, 7, 7, 7, 7, 7, 7, 7, 7, 7, 7, 7, 7, 7, 7, 7, 7, 7, 7, 7, 7, 8, 8, 8, 8, 8, 8, 8, 8, 8, 8, 8, 8, 8, 8, 8, 8, 8, 8, 8, 8, 8, 8, 8, 8, 8, 8, 8, 8, 8, 8, 8, 8, 8, 8, 8, 8, 8, 8, 8, 8, 8, 8, 8, 8, 8, 8, 8, 8, 8, 8, 8, 8, 8, 8, 8, 8, 8, 8, 8, 8, 8, 8, 8, 8, 8, 8, 8, 8, 8, 8, 8, 8, 8, 8, 8, 8, 8, 8, 8, 8, 8, 8, 8, 8, 8, 8, 8, 8, 8, 8, 8, 8, 8, 8, 8, 8, 8, 8, 8, 8, 8, 8, 8, 8, 8, 8, 8, 8, 8, 8, 8, 8, 8, 8, 8, 8, 8, 8, 8, 8, 8, 8, 8, 8, 8, 8, 8, 8]⟩) t_6) w fun t_7 w =>
        pvv prog (convert 5 3 t_7) w fun t_8 w =>
        pvv prog (binOp .add 3 n_5 t_8) w fun t_9 w =>
        K t_9 w) fun k_10 =>
      pvv prog (binOp .geq 123 x_2 (.int .u64 256)) w fun t_11 w =>
      cd t_11 (
        pvv prog (binOp .shr 123 x_2 (.int .u64 8)) w fun t_12 w =>
        pvv prog (binOp .add 3 n_3 (.int .i64 8)) w fun t_13 w =>
        k_10 [t_12, t_13] w) <|
      k_10 [x_2, n_3] w) fun k_14 =>
    pvv prog (binOp .geq 123 x_0 (.int .u64 65536)) w fun t_15 w =>
    cd t_15 (
      pvv prog (binOp .shr 123 x_0 (.int .u64 16)) w fun t_16 w =>
      pvv prog (binOp .add 3 n_1 (.int .i64 16)) w fun t_17 w =>
      k_14 [t_16, t_17] w) <|
    k_14 [x_0, n_1] w) fun k_18 =>
  pvv prog (binOp .geq 123 x_p0 (.int .u64 4294967296)) w fun t_19 w =>
  cd t_19 (
    pvv prog (binOp .shr 123 x_p0 (.int .u64 32)) w fun t_20 w =>
    k_18 [t_20, (.int .i64 32)] w) <|
  k_18 [x_p0, (.int .i64 0)] w
theorem B90_eq (x_p0 : Value) (w : World) (K : Value → World → Prop) : denFn prog Tryz.f90 T90 [x_p0] w K = B90 x_p0 w K := by kernel_rfl
theorem c90 {x_p0 : Value} {w : World} {K : Value → World → Prop} (h : B90 x_p0 w K) : Calls prog 90 #[x_p0] w (Ret K) :=
  denFn_calls Tryz.func90 T90_ok (Eq.mpr (B90_eq x_p0 w K) h)

-- 104 (*slices.xorshift).Next
def T104 : Ann := (.seq .none (.seq (.draw [.op 0 .pure, .op 1 .pure, .op 3 .pure, .op 4 .pure, .op 2 .load, .op 5 .load, .op 6 .pure, .op 7 .pure, .op 8 .pure, .op 9 .eff]) (.seq (.draw [.op 0 .pure, .op 1 .pure, .op 3 .pure, .op 4 .pure, .op 2 .load, .op 5 .load, .op 6 .pure, .op 7 .pure, .op 8 .pure, .op 9 .eff]) (.seq (.draw [.op 0 .pure, .op 1 .pure, .op 3 .pure, .op 4 .pure, .op 2 .load, .op 5 .load, .op 6 .pure, .op 7 .pure, .op 8 .pure, .op 9 .eff]) (.seq .none .none)))))
theorem T104_ok : chkFn prog Tryz.f104 T104 = true := by kernel_rfl
def B104 (r_p0 : Value) (w : World) (K : Value → World → Prop) : Prop :=
  dr w fun w =>
  pv prog (oNil r_p0) w fun t_0 w =>
  pv prog (oNil r_p0) w fun t_1 w =>
  bindS (vN (Instr.loadAt 133 t_0)) fun m_3 => ldv prog (Instr.loadAt 133 t_0) w fun t_2 w =>
  bindS (vN (Instr.loadAt 133 t_1)) fun m_5 => ldv prog (Instr.loadAt 133 t_1) w fun t_4 w =>
  pvv prog (binOp .shl 133 t_4 (.int .u64 13)) w fun t_6 w =>
  pvv prog (binOp .xor 133 t_2 t_6) w fun t_7 w =>
  pv prog (oNil r_p0) w fun t_8 w =>
  efu prog (Instr.storeAt 133 t_8 t_7) w fun u_9 w =>
  dr w fun w =>
  pv prog (oNil r_p0) w fun t_10 w =>
  pv prog (oNil r_p0) w fun t_11 w =>
  bindS (vN (Instr.loadAt 133 t_10)) fun m_13 => ldv prog (Instr.loadAt 133 t_10) w fun t_12 w =>
  bindS (vN (Instr.loadAt 133 t_11)) fun m_15 => ldv prog (Instr.loadAt 133 t_11) w fun t_14 w =>
  pvv prog (binOp .shr 133 t_14 (.int .u64 7)) w fun t_16 w =>
  pvv prog (binOp .xor 133 t_12 t_16) w fun t_17 w =>
  pv prog (oNil r_p0) w fun t_18 w =>
  efu prog (Instr.storeAt 133 t_18 t_17) w fun u_19 w =>
  dr w fun w =>
  pv prog (oNil r_p0) w fun t_20 w =>
  pv prog (oNil r_p0) w fun t_21 w =>
  bindS (vN (Instr.loadAt 133 t_20)) fun m_23 => ldv prog (Instr.loadAt 133 t_20) w fun t_22 w =>
  bindS (vN (Instr.loadAt 133 t_21)) fun m_25 => ldv prog (Instr.loadAt 133 t_21) w fun t_24 w =>
  pvv prog (binOp .shl 133 t_24 (.int .u64 17)) w fun t_26 w =>
  pvv prog (binOp .xor 133 t_22 t_26) w fun t_27 w =>
  pv prog (oNil r_p0) w fun t_28 w =>
  efu prog (Instr.storeAt 133 t_28 t_27) w fun u_29 w =>
  pv prog (oNil r_p0) w fun t_30 w =>
  ldv prog (Instr.loadAt 133 t_30) w fun t_31 w =>
  K t_31 w
theorem B104_eq (r_p0 : Value) (w : World) (K : Value → World → Prop) : denFn prog Tryz.f104 T104 [r_p0] w K = B104 r_p0 w K := by kernel_rfl
theorem c104 {r_p0 : Value} {w : World} {K : Value → World → Prop} (h : B104 r_p0 w K) : Calls prog 104 #[r_p0] w (Ret K) :=
  denFn_calls Tryz.func104 T104_ok (Eq.mpr (B104_eq r_p0 w K) h)

-- 37 (holdfast/token.row[holdfast/api.Family]).find
def T37 : Ann := (.seq .none (.seq (.seq .none (.seq (.seq .none .none) .none)) (.seq .none (.seq (.seq .none (.seq (.seq .none .none) .none)) (.seq .none .none)))))
theorem T37_ok : chkFn prog Tryz.f37 T37 = true := by kernel_rfl
def B37 (r_p0 id_p1 : Value) (w : World) (K : Value → World → Prop) : Prop :=
  efv prog (Instr.box 62 r_p0) w fun r_0 w =>
  efv prog (Instr.alloc 35 true (.tuple #[])) w fun x_1 w =>
  pvv prog (binOp .lss 3 id_p1 (.int .i64 1)) w fun t_2 w =>
  gate (some (t_2, false)) (fun K => K id_p1 w) w fun t_3 w =>
  gate (some (t_2, false)) (fun K => pvv prog (Instr.fieldAt 62 r_0 0) w K) w fun t_4 w =>
  gate (some (t_2, false)) (fun K => ldv prog (Instr.loadAt 3 t_4) w K) w fun t_5 w =>
  gate (some (t_2, false)) (fun K => pvv prog (binOp .geq 3 t_3 t_5) w K) w fun t_6 w =>
  pv prog (oPick t_2 (.bool true) t_6) w fun t_7 w =>
  cd t_7 (
    ldv prog (Instr.loadAt 35 x_1) w fun t_8 w =>
    efu prog (Instr.storeAt 35 x_1 t_8) w fun u_9 w =>
    ∃ r_10, (do loadVar 35 (← asAddr x_1)).run prog w = .ok r_10 w ∧ K (.tuple #[r_10, (.int .i64 4)]) w) <|
  pvv prog (Instr.fieldAt 62 r_0 1) w fun t_11 w =>
  ldv prog (Instr.loadAt 60 t_11) w fun t_12 w =>
  ldv prog (Instr.lookup 60 t_12 id_p1 true) w fun t_13 w =>
  pvv prog (Instr.extract t_13 0) w fun t_14 w =>
  pvv prog (Instr.extract t_13 1) w fun t_15 w =>
  efu prog (Instr.storeAt 35 x_1 t_14) w fun u_16 w =>
  pvv prog (Op.unary .not t_15) w fun t_17 w =>
  cd t_17 (
    ldv prog (Instr.loadAt 35 x_1) w fun t_18 w =>
    efu prog (Instr.storeAt 35 x_1 t_18) w fun u_19 w =>
    ∃ r_20, (do loadVar 35 (← asAddr x_1)).run prog w = .ok r_20 w ∧ K (.tuple #[r_20, (.int .i64 12)]) w) <|
  ldv prog (Instr.loadAt 35 x_1) w fun t_21 w =>
  efu prog (Instr.storeAt 35 x_1 t_21) w fun u_22 w =>
  ∃ r_23, (do loadVar 35 (← asAddr x_1)).run prog w = .ok r_23 w ∧ K (.tuple #[r_23, (.int .i64 0)]) w
theorem B37_eq (r_p0 id_p1 : Value) (w : World) (K : Value → World → Prop) : denFn prog Tryz.f37 T37 [r_p0, id_p1] w K = B37 r_p0 id_p1 w K := by kernel_rfl
theorem c37 {r_p0 id_p1 : Value} {w : World} {K : Value → World → Prop} (h : B37 r_p0 id_p1 w K) : Calls prog 37 #[r_p0, id_p1] w (Ret K) :=
  denFn_calls Tryz.func37 T37_ok (Eq.mpr (B37_eq r_p0 id_p1 w K) h)

-- 39 holdfast/token.all[holdfast/api.Token]
def T39 : Ann := (.seq .none (.seq .none (.seq (.seq .none (.block (.loop 2147475616 [5, 13] (.seq .none (.seq (.seq .none .none) (.meet 1073709216 [5] (.block (.seq .none (.seq .none (.seq .none .none)))) .none)))))) (.seq .none .none))))
theorem T39_ok : chkFn prog Tryz.f39 T39 = true := by kernel_rfl
def B39 (r_p0 is_p1 : Value) (w : World) (K : Value → World → Prop) : Prop :=
  efv prog (Instr.box 65 r_p0) w fun r_0 w =>
  pvv prog (Instr.fieldAt 65 r_0 1) w fun t_1 w =>
  ldv prog (Instr.loadAt 63 t_1) w fun t_2 w =>
  Calls prog 66 #[t_2] w (Ret fun t_3 w =>
  Calls prog 65 #[t_3] w (Ret fun t_4 w =>
  pv prog (oBi .len #[23] 3 #[false] #[t_4]) w fun t_5 w =>
  lp (fun σ w again_8 => pop σ fun out_6 σ => pop σ fun t_7 σ => fin σ <|
    pvv prog (binOp .lss 3 t_7 t_5) w fun t_9 w =>
    cd t_9 (
      jn (fun σ w => pop σ fun out_10 σ => fin σ <|
        pvv prog (binOp .add 3 t_7 (.int .i64 1)) w fun t_11 w =>
        again_8 [out_10, t_11] w) fun k_12 =>
      pvv prog (Instr.indexAt 23 t_4 t_7) w fun t_13 w =>
      ldv prog (Instr.loadAt 3 t_13) w fun t_14 w =>
      pvv prog (Instr.fieldAt 65 r_0 1) w fun t_15 w =>
      ldv prog (Instr.loadAt 63 t_15) w fun t_16 w =>
      ldv prog (Instr.lookup 63 t_16 t_14 false) w fun t_17 w =>
      ef prog (oCall is_p1 #[t_17]) w fun t_18 w =>
      cd t_18 (
        pvv prog (Instr.fieldAt 65 r_0 1) w fun t_19 w =>
        ldv prog (Instr.loadAt 63 t_19) w fun t_20 w =>
        ldv prog (Instr.lookup 63 t_20 t_14 false) w fun t_21 w =>
        efv prog (Instr.buildSlice 41 1 #[(0, t_21)]) w fun t_22 w =>
        ef prog (oBi .append #[41, 41] 41 #[false, false] #[out_6, t_22]) w fun t_23 w =>
        k_12 [t_23] w) <|
      k_12 [out_6] w) <|
    K out_6 w) [(.slice none 0 0), (.int .i64 0)] w))
theorem B39_eq (r_p0 is_p1 : Value) (w : World) (K : Value → World → Prop) : denFn prog Tryz.f39 T39 [r_p0, is_p1] w K = B39 r_p0 is_p1 w K := by kernel_rfl
theorem c39 {r_p0 is_p1 : Value} {w : World} {K : Value → World → Prop} (h : B39 r_p0 is_p1 w K) : Calls prog 39 #[r_p0, is_p1] w (Ret K) :=
  denFn_calls Tryz.func39 T39_ok (Eq.mpr (B39_eq r_p0 is_p1 w K) h)

-- 21 (*holdfast/token.Store).Sweep
def T21 : Ann := (.seq .none (.seq (.seq .none (.seq .none (.seq (.seq .none .none) .none))) (.seq .none (.seq .none (.seq .none (.seq .none .none))))))
theorem T21_ok : chkFn prog Tryz.f21 T21 = true := by kernel_rfl
def B21 (s_p0 now_p1 : Value) (w : World) (K : Value → World → Prop) : Prop :=
  efv prog (Instr.box 3 now_p1) w fun now_0 w =>
  ldv prog (Instr.loadAt 3 now_0) w fun t_1 w =>
  Calls prog 47 #[s_p0, t_1] w (Ret fun t_2 w =>
  pvv prog (oEq .neq 36 (.tmp 11) (.const (.int .i64 0)) t_2 (.int .i64 0)) w fun t_3 w =>
  cd t_3 (
    K (.tuple #[(.int .i64 0), t_2]) w) <|
  ldv prog (Instr.loadAt 3 now_0) w fun t_4 w =>
  pv prog (oNil s_p0) w fun t_5 w =>
  pvv prog (Instr.fieldAt 67 t_5 2) w fun t_6 w =>
  efu prog (Instr.storeAt 3 t_6 t_4) w fun u_7 w =>
  pv prog (oNil s_p0) w fun t_8 w =>
  pvv prog (Instr.fieldAt 67 t_8 1) w fun t_9 w =>
  pvv prog (Instr.fieldAt 65 t_9 1) w fun t_10 w =>
  ldv prog (Instr.loadAt 63 t_10) w fun t_11 w =>
  ld prog (oBi .len #[63] 3 #[false] #[t_11]) w fun t_12 w =>
  pv prog (oNil s_p0) w fun t_13 w =>
  pvv prog (Instr.fieldAt 67 t_13 1) w fun t_14 w =>
  pvv prog (Instr.fieldAt 65 t_14 1) w fun t_15 w =>
  ldv prog (Instr.loadAt 63 t_15) w fun t_16 w =>
  pvv prog (Instr.makeFunc (.func 55) #[] #[now_0]) w fun t_17 w =>
  Calls prog 54 #[t_16, t_17] w (Ret fun t_18 w =>
  pv prog (oNil s_p0) w fun t_19 w =>
  pvv prog (Instr.fieldAt 67 t_19 1) w fun t_20 w =>
  pvv prog (Instr.fieldAt 65 t_20 1) w fun t_21 w =>
  ldv prog (Instr.loadAt 63 t_21) w fun t_22 w =>
  ld prog (oBi .len #[63] 3 #[false] #[t_22]) w fun t_23 w =>
  pvv prog (binOp .sub 3 t_12 t_23) w fun t_24 w =>
  K (.tuple #[t_24, (.int .i64 0)]) w))
theorem B21_eq (s_p0 now_p1 : Value) (w : World) (K : Value → World → Prop) : denFn prog Tryz.f21 T21 [s_p0, now_p1] w K = B21 s_p0 now_p1 w K := by kernel_rfl
theorem c21 {s_p0 now_p1 : Value} {w : World} {K : Value → World → Prop} (h : B21 s_p0 now_p1 w K) : Calls prog 21 #[s_p0, now_p1] w (Ret K) :=
  denFn_calls Tryz.func21 T21_ok (Eq.mpr (B21_eq s_p0 now_p1 w K) h)

-- 93 strings.makeASCIISet
def T93 : Ann := (.seq .none (.seq (.seq .none (.block (.loop 1048568 [4] (.seq (.seq .none (.seq .none .none)) (.seq (.block (.seq .none (.seq (.seq .none (.seq (.seq .none .none) .none)) .none))) .none))))) (.seq .none .none)))
theorem T93_ok : chkFn prog Tryz.f93 T93 = true := by kernel_rfl
def B93 (chars_p0 : Value) (w : World) (K : Value → World → Prop) : Prop :=
  efv prog (Instr.alloc 126 true (.tuple #[])) w fun as_0 w =>
  lp (fun σ w again_2 => pop σ fun i_1 σ => fin σ <|
    pv prog (oBi .len #[9] 3 #[false] #[chars_p0]) w fun t_3 w =>
    pvv prog (binOp .lss 3 i_1 t_3) w fun t_4 w =>
    cd t_4 (
      pvv prog (Instr.index 9 chars_p0 i_1) w fun t_5 w =>
      pvv prog (binOp .geq 5 t_5 (.int .u8 128)) w fun t_6 w =>
      cd t_6 (
        ldv prog (Instr.loadAt 126 as_0) w fun t_7 w =>
        efu prog (Instr.storeAt 126 as_0 t_7) w fun u_8 w =>
        ∃ r_9, (do loadVar 126 (← asAddr as_0)).run prog w = .ok r_9 w ∧ K (.tuple #[r_9, (.bool false)]) w) <|
      pvv prog (Instr.indexAt 126 as_0 t_5) w fun t_10 w =>
      efu prog (Instr.storeAt 4 t_10 (.bool true)) w fun u_11 w =>
      pvv prog (binOp .add 3 i_1 (.int .i64 1)) w fun t_12 w =>
      again_2 [t_12] w) <|
    ldv prog (Instr.loadAt 126 as_0) w fun t_13 w =>
    efu prog (Instr.storeAt 126 as_0 t_13) w fun u_14 w =>
    ∃ r_15, (do loadVar 126 (← asAddr as_0)).run prog w = .ok r_15 w ∧ K (.tuple #[r_15, (.bool true)]) w) [(.int .i64 0)] w
theorem B93_eq (chars_p0 : Value) (w : World) (K : Value → World → Prop) : denFn prog Tryz.f93 T93 [chars_p0] w K = B93 chars_p0 w K := by kernel_rfl
theorem c93 {chars_p0 : Value} {w : World} {K : Value → World → Prop} (h : B93 chars_p0 w K) : Calls prog 93 #[chars_p0] w (Ret K) :=
  denFn_calls Tryz.func93 T93_ok (Eq.mpr (B93_eq chars_p0 w K) h)

-- 22 (*holdfast/token.Store).End
def T22 : Ann := (.seq .none (.seq (.seq .none (.seq (.seq .none .none) .none)) (.seq .none (.meet 8126464 [] (.seq .none (.seq .none .none)) (.seq .none .none)))))
theorem T22_ok : chkFn prog Tryz.f22 T22 = true := by kernel_rfl
def B22 (s_p0 family_p1 : Value) (w : World) (K : Value → World → Prop) : Prop :=
  pvv prog (oEq .eql 24 (.tmp 7) (.const (.pointer none)) s_p0 (.pointer none)) w fun t_0 w =>
  cd t_0 (
    K (.int .i64 1) w) <|
  pv prog (oNil s_p0) w fun t_1 w =>
  pvv prog (Instr.fieldAt 67 t_1 0) w fun t_2 w =>
  ldv prog (Instr.loadAt 62 t_2) w fun t_3 w =>
  Calls prog 37 #[t_3, family_p1] w (Ret fun t_4 w =>
  pvv prog (Instr.extract t_4 0) w fun t_5 w =>
  pvv prog (Instr.extract t_4 1) w fun t_6 w =>
  efv prog (Instr.alloc 35 true (.tuple #[])) w fun t_7 w =>
  efu prog (Instr.storeAt 35 t_7 t_5) w fun u_8 w =>
  jn (fun σ w => fin σ <|
    K t_6 w) fun k_9 =>
  pvv prog (oEq .eql 36 (.tmp 18) (.const (.int .i64 0)) t_6 (.int .i64 0)) w fun t_10 w =>
  cd t_10 (
    Calls prog 52 #[s_p0, family_p1] w (Ret fun t_11 w =>
    k_9 [] w)) <|
  k_9 [] w)
theorem B22_eq (s_p0 family_p1 : Value) (w : World) (K : Value → World → Prop) : denFn prog Tryz.f22 T22 [s_p0, family_p1] w K = B22 s_p0 family_p1 w K := by kernel_rfl
theorem c22 {s_p0 family_p1 : Value} {w : World} {K : Value → World → Prop} (h : B22 s_p0 family_p1 w K) : Calls prog 22 #[s_p0, family_p1] w (Ret K) :=
  denFn_calls Tryz.func22 T22_ok (Eq.mpr (B22_eq s_p0 family_p1 w K) h)

-- 96 strings.trimLeftUnicode
def T96 : Ann := (.seq .none (.meet 4194273 [0] (.block (.loop 4194273 [0] (.seq (.seq .none (.seq .none .none)) (.block (.seq .none (.seq (.seq .none (.seq .none .none)) .none)))))) (.seq .none .none)))
theorem T96_ok : chkFn prog Tryz.f96 T96 = true := by kernel_rfl
def B96 (s_p0 cutset_p1 : Value) (w : World) (K : Value → World → Prop) : Prop :=
  jn (fun σ w => pop σ fun s_0 σ => fin σ <|
    K s_0 w) fun k_1 =>
  lp (fun σ w again_3 => pop σ fun s_2 σ => fin σ <|
    pv prog (oBi .len #[9] 3 #[false] #[s_2]) w fun t_4 w =>
    pvv prog (binOp .gtr 3 t_4 (.int .i64 0)) w fun t_5 w =>
    cd t_5 (
      Calls prog 108 #[s_2] w (Ret fun t_6 w =>
      pvv prog (Instr.extract t_6 0) w fun t_7 w =>
      pvv prog (Instr.extract t_6 1) w fun t_8 w =>
      Calls prog 109 #[cutset_p1, t_7] w (Ret fun t_9 w =>
      pvv prog (Op.unary .not t_9) w fun t_10 w =>
      cd t_10 (
        k_1 [s_2] w) <|
      pvv prog (Instr.sliceAt 9 s_2 (some t_8) none none) w fun t_11 w =>
      again_3 [t_11] w))) <|
    k_1 [s_2] w) [s_p0] w
theorem B96_eq (s_p0 cutset_p1 : Value) (w : World) (K : Value → World → Prop) : denFn prog Tryz.f96 T96 [s_p0, cutset_p1] w K = B96 s_p0 cutset_p1 w K := by kernel_rfl
theorem c96 {s_p0 cutset_p1 : Value} {w : World} {K : Value → World → Prop} (h : B96 s_p0 cutset_p1 w K) : Calls prog 96 #[s_p0, cutset_p1] w (Ret K) :=
  denFn_calls Tryz.func96 T96_ok (Eq.mpr (B96_eq s_p0 cutset_p1 w K) h)

-- 120 internal/stringslite.HasPrefix
def T120 : Ann := (.seq .none (.seq .none .none))
theorem T120_ok : chkFn prog Tryz.f120 T120 = true := by kernel_rfl
def B120 (s_p0 prefix_p1 : Value) (w : World) (K : Value → World → Prop) : Prop :=
  pv prog (oBi .len #[9] 3 #[false] #[s_p0]) w fun t_0 w =>
  pv prog (oBi .len #[9] 3 #[false] #[prefix_p1]) w fun t_1 w =>
  pvv prog (binOp .geq 3 t_0 t_1) w fun t_2 w =>
  gate (some (t_2, true)) (fun K => K s_p0 w) w fun t_3 w =>
  gate (some (t_2, true)) (fun K => K prefix_p1 w) w fun t_4 w =>
  gate (some (t_2, true)) (fun K => pv prog (oBi .len #[9] 3 #[false] #[t_4]) w K) w fun t_5 w =>
  gate (some (t_2, true)) (fun K => pvv prog (Instr.sliceAt 9 t_3 none (some t_5) none) w K) w fun t_6 w =>
  gate (some (t_2, true)) (fun K => K prefix_p1 w) w fun t_7 w =>
  gate (some (t_2, true)) (fun K => pvv prog (oEq .eql 9 (.tmp 14) (.tmp 15) t_6 t_7) w K) w fun t_8 w =>
  pv prog (oPick t_2 t_8 (.bool false)) w fun t_9 w =>
  K t_9 w
theorem B120_eq (s_p0 prefix_p1 : Value) (w : World) (K : Value → World → Prop) : denFn prog Tryz.f120 T120 [s_p0, prefix_p1] w K = B120 s_p0 prefix_p1 w K := by kernel_rfl
theorem c120 {s_p0 prefix_p1 : Value} {w : World} {K : Value → World → Prop} (h : B120 s_p0 prefix_p1 w K) : Calls prog 120 #[s_p0, prefix_p1] w (Ret K) :=
  denFn_calls Tryz.func120 T120_ok (Eq.mpr (B120_eq s_p0 prefix_p1 w K) h)

-- 94 strings.trimLeftASCII
def T94 : Ann := (.seq .none (.meet 32737 [0] (.block (.loop 32737 [0] (.seq (.seq .none (.seq .none .none)) (.block (.seq (.seq .none (.seq .none .none)) .none))))) (.seq .none .none)))
theorem T94_ok : chkFn prog Tryz.f94 T94 = true := by kernel_rfl
def B94 (s_p0 as_p1 : Value) (w : World) (K : Value → World → Prop) : Prop :=
  jn (fun σ w => pop σ fun s_0 σ => fin σ <|
    K s_0 w) fun k_1 =>
  lp (fun σ w again_3 => pop σ fun s_2 σ => fin σ <|
    pv prog (oBi .len #[9] 3 #[false] #[s_2]) w fun t_4 w =>
    pvv prog (binOp .gtr 3 t_4 (.int .i64 0)) w fun t_5 w =>
    cd t_5 (
      pvv prog (Instr.index 9 s_2 (.int .i64 0)) w fun t_6 w =>
      Calls prog 107 #[as_p1, t_6] w (Ret fun t_7 w =>
      pvv prog (Op.unary .not t_7) w fun t_8 w =>
      cd t_8 (
        k_1 [s_2] w) <|
      pvv prog (Instr.sliceAt 9 s_2 (some (.int .i64 1)) none none) w fun t_9 w =>
      again_3 [t_9] w)) <|
    k_1 [s_2] w) [s_p0] w
theorem B94_eq (s_p0 as_p1 : Value) (w : World) (K : Value → World → Prop) : denFn prog Tryz.f94 T94 [s_p0, as_p1] w K = B94 s_p0 as_p1 w K := by kernel_rfl
theorem c94 {s_p0 as_p1 : Value} {w : World} {K : Value → World → Prop} (h : B94 s_p0 as_p1 w K) : Calls prog 94 #[s_p0, as_p1] w (Ret K) :=
  denFn_calls Tryz.func94 T94_ok (Eq.mpr (B94_eq s_p0 as_p1 w K) h)

-- 77 maps.Keys[map[int]holdfast/api.Token,int,holdfast/api.Token]$1
def T77 : Ann := (.seq .none (.block (.loop 16328 [] (.seq .none (.seq (.seq .none .none) (.block (.seq .none (.seq .none (.seq .none .none)))))))))
theorem T77_ok : chkFn prog Tryz.f77 T77 = true := by kernel_rfl
def B77 (yield_p0 x_p1 : Value) (w : World) (K : Value → World → Prop) : Prop :=
  ldv prog (Instr.loadAt 63 x_p1) w fun t_0 w =>
  efv prog (Instr.range 63 t_0) w fun t_1 w =>
  lp (fun σ w again_2 => fin σ <|
    efv prog (Instr.next t_1 false 0) w fun t_3 w =>
    pvv prog (Instr.extract t_3 0) w fun t_4 w =>
    cd t_4 (
      efv prog (Instr.entry t_1) w fun t_5 w =>
      pvv prog (Instr.extract t_5 0) w fun t_6 w =>
      ef prog (oCall yield_p0 #[t_6]) w fun t_7 w =>
      pvv prog (Op.unary .not t_7) w fun t_8 w =>
      cd t_8 (
        K (.tuple #[]) w) <|
      again_2 [] w) <|
    K (.tuple #[]) w) [] w
theorem B77_eq (yield_p0 x_p1 : Value) (w : World) (K : Value → World → Prop) : denFn prog Tryz.f77 T77 [yield_p0, x_p1] w K = B77 yield_p0 x_p1 w K := by kernel_rfl
theorem c77 {yield_p0 x_p1 : Value} {w : World} {K : Value → World → Prop} (h : B77 yield_p0 x_p1 w K) : Calls prog 77 #[yield_p0, x_p1] w (Ret K) :=
  denFn_calls Tryz.func77 T77_ok (Eq.mpr (B77_eq yield_p0 x_p1 w K) h)

-- 98 slices.AppendSeq[[]int,int]
def T98 : Ann := (.seq .none (.seq (.seq .none (.block (.range .none (.block .none)))) (.seq .none .none)))
theorem T98_ok : chkFn prog Tryz.f98 T98 = true := by kernel_rfl
def B98 (s_p0 seq_p1 : Value) (w : World) (K : Value → World → Prop) : Prop :=
  efv prog (Instr.box 23 s_p0) w fun s_0 w =>
  rng prog 1 seq_p1 (fun σ w bg_2 ex_3 => pop σ fun t_1 σ => fin σ <|
    bg_2 w fun w =>
    ldv prog (Instr.loadAt 23 s_0) w fun t_4 w =>
    efv prog (Instr.buildSlice 23 1 #[(0, t_1)]) w fun t_5 w =>
    ef prog (oBi .append #[23, 23] 23 #[false, false] #[t_4, t_5]) w fun t_6 w =>
    efu prog (Instr.storeAt 23 s_0 t_6) w fun u_7 w =>
    ex_3 .normal w) w fun p_9 D_8 w =>
  jump (
    ldv prog (Instr.loadAt 23 s_0) w fun t_10 w =>
    und [D_8] w fun w => K t_10 w) (
    und [D_8] w fun w => K (.slice none 0 0) w) [] p_9
theorem B98_eq (s_p0 seq_p1 : Value) (w : World) (K : Value → World → Prop) : denFn prog Tryz.f98 T98 [s_p0, seq_p1] w K = B98 s_p0 seq_p1 w K := by kernel_rfl
theorem c98 {s_p0 seq_p1 : Value} {w : World} {K : Value → World → Prop} (h : B98 s_p0 seq_p1 w K) : Calls prog 98 #[s_p0, seq_p1] w (Ret K) :=
  denFn_calls Tryz.func98 T98_ok (Eq.mpr (B98_eq s_p0 seq_p1 w K) h)

-- 15 (*holdfast/token.Store).Families
def T15 : Ann := (.seq .none (.seq (.seq .none (.seq (.seq .none .none) .none)) (.seq .none .none)))
theorem T15_ok : chkFn prog Tryz.f15 T15 = true := by kernel_rfl
def B15 (s_p0 session_p1 : Value) (w : World) (K : Value → World → Prop) : Prop :=
  efv prog (Instr.box 3 session_p1) w fun session_0 w =>
  pvv prog (oEq .eql 24 (.tmp 5) (.const (.pointer none)) s_p0 (.pointer none)) w fun t_1 w =>
  cd t_1 (
    K (.slice none 0 0) w) <|
  pv prog (oNil s_p0) w fun t_2 w =>
  pvv prog (Instr.fieldAt 67 t_2 0) w fun t_3 w =>
  ldv prog (Instr.loadAt 62 t_3) w fun t_4 w =>
  pvv prog (Instr.makeFunc (.func 42) #[] #[session_0]) w fun t_5 w =>
  Calls prog 41 #[t_4, t_5] w (Ret fun t_6 w =>
  K t_6 w)
theorem B15_eq (s_p0 session_p1 : Value) (w : World) (K : Value → World → Prop) : denFn prog Tryz.f15 T15 [s_p0, session_p1] w K = B15 s_p0 session_p1 w K := by kernel_rfl
theorem c15 {s_p0 session_p1 : Value} {w : World} {K : Value → World → Prop} (h : B15 s_p0 session_p1 w K) : Calls prog 15 #[s_p0, session_p1] w (Ret K) :=
  denFn_calls Tryz.func15 T15_ok (Eq.mpr (B15_eq s_p0 session_p1 w K) h)

-- 100 internal/stringslite.TrimPrefix
def T100 : Ann := (.seq .none (.seq (.seq .none (.seq (.seq .none .none) .none)) (.seq .none .none)))
theorem T100_ok : chkFn prog Tryz.f100 T100 = true := by kernel_rfl
def B100 (s_p0 prefix_p1 : Value) (w : World) (K : Value → World → Prop) : Prop :=
  Calls prog 120 #[s_p0, prefix_p1] w (Ret fun t_0 w =>
  cd t_0 (
    pv prog (oBi .len #[9] 3 #[false] #[prefix_p1]) w fun t_1 w =>
    pvv prog (Instr.sliceAt 9 s_p0 (some t_1) none none) w fun t_2 w =>
    K t_2 w) <|
  K s_p0 w)
theorem B100_eq (s_p0 prefix_p1 : Value) (w : World) (K : Value → World → Prop) : denFn prog Tryz.f100 T100 [s_p0, prefix_p1] w K = B100 s_p0 prefix_p1 w K := by kernel_rfl
theorem c100 {s_p0 prefix_p1 : Value} {w : World} {K : Value → World → Prop} (h : B100 s_p0 prefix_p1 w K) : Calls prog 100 #[s_p0, prefix_p1] w (Ret K) :=
  denFn_calls Tryz.func100 T100_ok (Eq.mpr (B100_eq s_p0 prefix_p1 w K) h)

-- 55 (*holdfast/token.Store).Sweep$1
def T55 : Ann := (.seq .none (.seq .none .none))
theorem T55_ok : chkFn prog Tryz.f55 T55 = true := by kernel_rfl
def B55 (x_p0 t_p1 x_p2 : Value) (w : World) (K : Value → World → Prop) : Prop :=
  efv prog (Instr.box 49 t_p1) w fun t_0 w =>
  ldv prog (Instr.loadAt 3 x_p2) w fun t_1 w =>
  pvv prog (Instr.fieldAt 49 t_0 3) w fun t_2 w =>
  ldv prog (Instr.loadAt 3 t_2) w fun t_3 w =>
  pvv prog (binOp .geq 3 t_1 t_3) w fun t_4 w =>
  K t_4 w
theorem B55_eq (x_p0 t_p1 x_p2 : Value) (w : World) (K : Value → World → Prop) : denFn prog Tryz.f55 T55 [x_p0, t_p1, x_p2] w K = B55 x_p0 t_p1 x_p2 w K := by kernel_rfl
theorem c55 {x_p0 t_p1 x_p2 : Value} {w : World} {K : Value → World → Prop} (h : B55 x_p0 t_p1 x_p2 w K) : Calls prog 55 #[x_p0, t_p1, x_p2] w (Ret K) :=
  denFn_calls Tryz.func55 T55_ok (Eq.mpr (B55_eq x_p0 t_p1 x_p2 w K) h)

-- 6 holdfast/token.New
def T6 : Ann := (.seq .none (.seq .none .none))
theorem T6_ok : chkFn prog Tryz.f6 T6 = true := by kernel_rfl
def B6 (w : World) (K : Value → World → Prop) : Prop :=
  efv prog (Instr.makeMap 60 none) w fun t_0 w =>
  pvv prog (Instr.build 62 #[(0, (.int .i64 1)), (1, t_0)]) w fun t_1 w =>
  efv prog (Instr.makeMap 63 none) w fun t_2 w =>
  pvv prog (Instr.build 65 #[(0, (.int .i64 1)), (1, t_2)]) w fun t_3 w =>
  pvv prog (Instr.build 67 #[(0, t_1), (1, t_3)]) w fun t_4 w =>
  efv prog (Instr.box 67 t_4) w fun t_5 w =>
  K t_5 w
theorem B6_eq (w : World) (K : Value → World → Prop) : denFn prog Tryz.f6 T6 [] w K = B6  w K := by kernel_rfl
theorem c6 {w : World} {K : Value → World → Prop} (h : B6  w K) : Calls prog 6 #[] w (Ret K) :=
  denFn_calls Tryz.func6 T6_ok (Eq.mpr (B6_eq  w K) h)

-- 136 math/bits.TrailingZeros
def T136 : Ann := (.seq .none (.seq (.seq (.seq .none .none) .none) (.seq .none .none)))
theorem T136_ok : chkFn prog Tryz.f136 T136 = true := by kernel_rfl
def B136 (x_p0 : Value) (w : World) (K : Value → World → Prop) : Prop :=
  cd (.bool false) (
    pvv prog (convert 106 121 x_p0) w fun t_0 w =>
    Calls prog 142 #[t_0] w (Ret fun t_1 w =>
    K t_1 w)) <|
  Calls prog 143 #[x_p0] w (Ret fun t_2 w =>
  K t_2 w)
theorem B136_eq (x_p0 : Value) (w : World) (K : Value → World → Prop) : denFn prog Tryz.f136 T136 [x_p0] w K = B136 x_p0 w K := by kernel_rfl
theorem c136 {x_p0 : Value} {w : World} {K : Value → World → Prop} (h : B136 x_p0 w K) : Calls prog 136 #[x_p0] w (Ret K) :=
  denFn_calls Tryz.func136 T136_ok (Eq.mpr (B136_eq x_p0 w K) h)

-- 29 (*holdfast/holdfastref12.Store).EndSessions
def T29 : Ann := (.seq .none (.seq .none .none))
theorem T29_ok : chkFn prog Tryz.f29 T29 = true := by kernel_rfl
def B29 (s_p0 sessions_p1 : Value) (w : World) (K : Value → World → Prop) : Prop :=
  Calls prog 62 #[s_p0, (.string ⟨#[]⟩), sessions_p1] w (Ret fun t_0 w =>
  K t_0 w)
theorem B29_eq (s_p0 sessions_p1 : Value) (w : World) (K : Value → World → Prop) : denFn prog Tryz.f29 T29 [s_p0, sessions_p1] w K = B29 s_p0 sessions_p1 w K := by kernel_rfl
theorem c29 {s_p0 sessions_p1 : Value} {w : World} {K : Value → World → Prop} (h : B29 s_p0 sessions_p1 w K) : Calls prog 29 #[s_p0, sessions_p1] w (Ret K) :=
  denFn_calls Tryz.func29 T29_ok (Eq.mpr (B29_eq s_p0 sessions_p1 w K) h)

-- 67 maps.Keys[map[int]holdfast/api.Family,int,holdfast/api.Family]
def T67 : Ann := (.seq .none (.seq .none .none))
theorem T67_ok : chkFn prog Tryz.f67 T67 = true := by kernel_rfl
def B67 (m_p0 : Value) (w : World) (K : Value → World → Prop) : Prop :=
  efv prog (Instr.box 60 m_p0) w fun m_0 w =>
  pvv prog (Instr.makeFunc (.func 78) #[] #[m_0]) w fun t_1 w =>
  K t_1 w
theorem B67_eq (m_p0 : Value) (w : World) (K : Value → World → Prop) : denFn prog Tryz.f67 T67 [m_p0] w K = B67 m_p0 w K := by kernel_rfl
theorem c67 {m_p0 : Value} {w : World} {K : Value → World → Prop} (h : B67 m_p0 w K) : Calls prog 67 #[m_p0] w (Ret K) :=
  denFn_calls Tryz.func67 T67_ok (Eq.mpr (B67_eq m_p0 w K) h)

-- 139 internal/bytealg.Cutover
def T139 : Ann := (.seq .none (.seq .none .none))
theorem T139_ok : chkFn prog Tryz.f139 T139 = true := by kernel_rfl
def B139 (n_p0 : Value) (w : World) (K : Value → World → Prop) : Prop :=
  pvv prog (binOp .add 3 n_p0 (.int .i64 16)) w fun t_0 w =>
  pvv prog (binOp .quo 3 t_0 (.int .i64 8)) w fun t_1 w =>
  K t_1 w
theorem B139_eq (n_p0 : Value) (w : World) (K : Value → World → Prop) : denFn prog Tryz.f139 T139 [n_p0] w K = B139 n_p0 w K := by kernel_rfl
theorem c139 {n_p0 : Value} {w : World} {K : Value → World → Prop} (h : B139 n_p0 w K) : Calls prog 139 #[n_p0] w (Ret K) :=
  denFn_calls Tryz.func139 T139_ok (Eq.mpr (B139_eq n_p0 w K) h)

-- 71 cmp.isNaN[string]
def T71 : Ann := (.seq .none (.seq .none .none))
theorem T71_ok : chkFn prog Tryz.f71 T71 = true := by kernel_rfl
def B71 (x_p0 : Value) (w : World) (K : Value → World → Prop) : Prop :=
  pvv prog (oEq .neq 9 (.tmp 3) (.tmp 4) x_p0 x_p0) w fun t_0 w =>
  K t_0 w
theorem B71_eq (x_p0 : Value) (w : World) (K : Value → World → Prop) : denFn prog Tryz.f71 T71 [x_p0] w K = B71 x_p0 w K := by kernel_rfl
theorem c71 {x_p0 : Value} {w : World} {K : Value → World → Prop} (h : B71 x_p0 w K) : Calls prog 71 #[x_p0] w (Ret K) :=
  denFn_calls Tryz.func71 T71_ok (Eq.mpr (B71_eq x_p0 w K) h)


end Go.Proofs.YtbcimkjgpplcpaaGreatDoor
