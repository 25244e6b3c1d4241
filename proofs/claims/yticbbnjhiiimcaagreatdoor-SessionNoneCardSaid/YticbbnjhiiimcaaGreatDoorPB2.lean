import Derived.Test.YticbbnjhiiimcaaGreatDoorPI
set_option linter.all false
set_option maxRecDepth 100000
namespace Go.Proofs.YticbbnjhiiimcaaGreatDoor
open Go Hold
-- 85 slices.partitionOrdered[int]
def T85 : Ann := (.seq .none (.seq (.draw [.op 0 .pure, .op 1 .pure, .op 2 .pure, .op 3 .pure, .op 4 .pure, .op 5 .pure, .op 6 .pure, .op 8 .pure, .op 9 .pure, .op 10 .pure, .op 7 .load, .op 11 .load, .op 12 .pure, .op 13 .eff, .op 14 .pure, .op 15 .eff]) (.seq .none (.seq (.block (.loop 70367670436864 [10] (.seq (.seq (.draw [.op 0 .pure, .op 1 .pure, .op 2 .pure, .op 3 .pure, .op 4 .pure, .op 5 .pure, .op 6 .pure, .op 8 .pure, .op 9 .pure, .op 10 .pure, .op 7 .load, .op 11 .load, .op 12 .eff, .op 13 .pure]) (.seq .none .none)) (.block .none)))) (.seq (.block (.loop 9223301668110600192 [11] (.seq (.seq (.draw [.op 0 .pure, .op 1 .pure, .op 2 .pure, .op 3 .pure, .op 4 .pure, .op 5 .pure, .op 6 .pure, .op 8 .pure, .op 9 .pure, .op 10 .pure, .op 7 .load, .op 11 .load, .op 12 .eff, .op 13 .pure, .op 14 .pure]) (.seq .none .none)) (.block .none)))) (.seq (.seq .none (.seq (.seq (.draw [.op 0 .pure, .op 1 .pure, .op 2 .pure, .op 3 .pure, .op 4 .pure, .op 5 .pure, .op 6 .pure, .op 8 .pure, .op 9 .pure, .op 10 .pure, .op 7 .load, .op 11 .load, .op 12 .pure, .op 13 .eff, .op 14 .pure, .op 15 .eff]) (.seq .none .none)) .none)) (.seq (.draw [.op 0 .pure, .op 1 .pure, .op 2 .pure, .op 3 .pure, .op 4 .pure, .op 5 .pure, .op 6 .pure, .op 8 .pure, .op 9 .pure, .op 10 .pure, .op 7 .load, .op 11 .load, .op 12 .pure, .op 13 .eff, .op 14 .pure, .op 15 .eff]) (.seq .none (.seq .none (.seq (.block (.loop 11417981541647678414640987641481260342710373376 [10, 11] (.block (.seq (.block (.loop 41537741042978506913543222282159104 [10] (.seq (.seq (.draw [.op 0 .pure, .op 1 .pure, .op 2 .pure, .op 3 .pure, .op 4 .pure, .op 5 .pure, .op 6 .pure, .op 8 .pure, .op 9 .pure, .op 10 .pure, .op 7 .load, .op 11 .load, .op 12 .eff, .op 13 .pure]) (.seq .none .none)) (.block .none)))) (.seq (.block (.loop 5444476332360147136792965474937657624576 [11] (.seq (.seq (.draw [.op 0 .pure, .op 1 .pure, .op 2 .pure, .op 3 .pure, .op 4 .pure, .op 5 .pure, .op 6 .pure, .op 8 .pure, .op 9 .pure, .op 10 .pure, .op 7 .load, .op 11 .load, .op 12 .eff, .op 13 .pure, .op 14 .pure]) (.seq .none .none)) (.block .none)))) (.seq (.seq .none (.seq .none .none)) (.seq (.draw [.op 0 .pure, .op 1 .pure, .op 2 .pure, .op 3 .pure, .op 4 .pure, .op 5 .pure, .op 6 .pure, .op 8 .pure, .op 9 .pure, .op 10 .pure, .op 7 .load, .op 11 .load, .op 12 .pure, .op 13 .eff, .op 14 .pure, .op 15 .eff]) (.seq .none .none)))))))) (.seq (.draw [.op 0 .pure, .op 1 .pure, .op 2 .pure, .op 3 .pure, .op 4 .pure, .op 5 .pure, .op 6 .pure, .op 8 .pure, .op 9 .pure, .op 10 .pure, .op 7 .load, .op 11 .load, .op 12 .pure, .op 13 .eff, .op 14 .pure, .op 15 .eff]) (.seq .none .none))))))))))))
theorem T85_ok : chkFn prog Tryz.f85 T85 = true := by kernel_rfl
def B85 (data_p0 a_p1 b_p2 pivot_p3 : Value) (w : World) (K : Value → World → Prop) : Prop :=
  dr w fun w =>
  pvv prog (Instr.indexAt 31 data_p0 pivot_p3) w fun t_0 w =>
  pvv prog (Instr.indexAt 31 data_p0 a_p1) w fun t_1 w =>
  bindS (vN (Instr.loadAt 3 t_0)) fun m_3 => ldv prog (Instr.loadAt 3 t_0) w fun t_2 w =>
  bindS (vN (Instr.loadAt 3 t_1)) fun m_5 => ldv prog (Instr.loadAt 3 t_1) w fun t_4 w =>
  pvv prog (Instr.indexAt 31 data_p0 a_p1) w fun t_6 w =>
  efu prog (Instr.storeAt 3 t_6 t_2) w fun u_7 w =>
  pvv prog (Instr.indexAt 31 data_p0 pivot_p3) w fun t_8 w =>
  efu prog (Instr.storeAt 3 t_8 t_4) w fun u_9 w =>
  pvv prog (binOp .add 3 a_p1 (.int .i64 1)) w fun t_10 w =>
  pvv prog (binOp .sub 3 b_p2 (.int .i64 1)) w fun t_11 w =>
  lp (fun σ w again_13 => pop σ fun i_12 σ => fin σ <|
    dr w fun w =>
    pvv prog (binOp .leq 3 i_12 t_11) w fun t_14 w =>
    gate (some (t_14, true)) (fun K => K data_p0 w) w fun t_15 w =>
    gate (some (t_14, true)) (fun K => K i_12 w) w fun t_16 w =>
    gate (some (t_14, true)) (fun K => pvv prog (Instr.indexAt 31 t_15 t_16) w K) w fun t_17 w =>
    gate (some (t_14, true)) (fun K => K data_p0 w) w fun t_18 w =>
    gate (some (t_14, true)) (fun K => K a_p1 w) w fun t_19 w =>
    gate (some (t_14, true)) (fun K => pvv prog (Instr.indexAt 31 t_18 t_19) w K) w fun t_20 w =>
    bindS (vN (Instr.loadAt 3 t_17)) fun m_22 => gate (some (t_14, true)) (fun K => ldv prog (Instr.loadAt 3 t_17) w K) w fun t_21 w =>
    bindS (vN (Instr.loadAt 3 t_20)) fun m_24 => gate (some (t_14, true)) (fun K => ldv prog (Instr.loadAt 3 t_20) w K) w fun t_23 w =>
    gate (some (t_14, true)) (fun K => Calls prog 83 #[t_21, t_23] w (Ret fun s_138 w => K s_138 w)) w fun t_25 w =>
    pv prog (oPick t_14 t_25 (.bool false)) w fun t_26 w =>
    cd t_26 (
      pvv prog (binOp .add 3 i_12 (.int .i64 1)) w fun t_27 w =>
      again_13 [t_27] w) <|
    lp (fun σ w again_29 => pop σ fun j_28 σ => fin σ <|
      dr w fun w =>
      pvv prog (binOp .leq 3 i_12 j_28) w fun t_30 w =>
      gate (some (t_30, true)) (fun K => K data_p0 w) w fun t_31 w =>
      gate (some (t_30, true)) (fun K => K j_28 w) w fun t_32 w =>
      gate (some (t_30, true)) (fun K => pvv prog (Instr.indexAt 31 t_31 t_32) w K) w fun t_33 w =>
      gate (some (t_30, true)) (fun K => K data_p0 w) w fun t_34 w =>
      gate (some (t_30, true)) (fun K => K a_p1 w) w fun t_35 w =>
      gate (some (t_30, true)) (fun K => pvv prog (Instr.indexAt 31 t_34 t_35) w K) w fun t_36 w =>
      bindS (vN (Instr.loadAt 3 t_33)) fun m_38 => gate (some (t_30, true)) (fun K => ldv prog (Instr.loadAt 3 t_33) w K) w fun t_37 w =>
      bindS (vN (Instr.loadAt 3 t_36)) fun m_40 => gate (some (t_30, true)) (fun K => ldv prog (Instr.loadAt 3 t_36) w K) w fun t_39 w =>
      gate (some (t_30, true)) (fun K => Calls prog 83 #[t_37, t_39] w (Ret fun s_137 w => K s_137 w)) w fun t_41 w =>
      gate (some (t_30, true)) (fun K => pvv prog (Op.unary .not t_41) w K) w fun t_42 w =>
      pv prog (oPick t_30 t_42 (.bool false)) w fun t_43 w =>
      cd t_43 (
        pvv prog (binOp .sub 3 j_28 (.int .i64 1)) w fun t_44 w =>
        again_29 [t_44] w) <|
      pvv prog (binOp .gtr 3 i_12 j_28) w fun t_45 w =>
      cd t_45 (
        dr w fun w =>
        pvv prog (Instr.indexAt 31 data_p0 a_p1) w fun t_46 w =>
        pvv prog (Instr.indexAt 31 data_p0 j_28) w fun t_47 w =>
        bindS (vN (Instr.loadAt 3 t_46)) fun m_49 => ldv prog (Instr.loadAt 3 t_46) w fun t_48 w =>
        bindS (vN (Instr.loadAt 3 t_47)) fun m_51 => ldv prog (Instr.loadAt 3 t_47) w fun t_50 w =>
        pvv prog (Instr.indexAt 31 data_p0 j_28) w fun t_52 w =>
        efu prog (Instr.storeAt 3 t_52 t_48) w fun u_53 w =>
        pvv prog (Instr.indexAt 31 data_p0 a_p1) w fun t_54 w =>
        efu prog (Instr.storeAt 3 t_54 t_50) w fun u_55 w =>
        K (.tuple #[j_28, (.bool true)]) w) <|
      dr w fun w =>
      pvv prog (Instr.indexAt 31 data_p0 j_28) w fun t_58 w =>
      pvv prog (Instr.indexAt 31 data_p0 i_12) w fun t_59 w =>
      bindS (vN (Instr.loadAt 3 t_58)) fun m_61 => ldv prog (Instr.loadAt 3 t_58) w fun t_60 w =>
      bindS (vN (Instr.loadAt 3 t_59)) fun m_63 => ldv prog (Instr.loadAt 3 t_59) w fun t_62 w =>
      pvv prog (Instr.indexAt 31 data_p0 i_12) w fun t_64 w =>
      efu prog (Instr.storeAt 3 t_64 t_60) w fun u_65 w =>
      pvv prog (Instr.indexAt 31 data_p0 j_28) w fun t_66 w =>
      efu prog (Instr.storeAt 3 t_66 t_62) w fun u_67 w =>
      pvv prog (binOp .add 3 i_12 (.int .i64 1)) w fun t_68 w =>
      pvv prog (binOp .sub 3 j_28 (.int .i64 1)) w fun t_69 w =>
      lp (fun σ w again_72 => pop σ fun i_70 σ => pop σ fun j_71 σ => fin σ <|
        lp (fun σ w again_74 => pop σ fun i_73 σ => fin σ <|
          dr w fun w =>
          pvv prog (binOp .leq 3 i_73 j_71) w fun t_75 w =>
          gate (some (t_75, true)) (fun K => K data_p0 w) w fun t_76 w =>
          gate (some (t_75, true)) (fun K => K i_73 w) w fun t_77 w =>
          gate (some (t_75, true)) (fun K => pvv prog (Instr.indexAt 31 t_76 t_77) w K) w fun t_78 w =>
          gate (some (t_75, true)) (fun K => K data_p0 w) w fun t_79 w =>
          gate (some (t_75, true)) (fun K => K a_p1 w) w fun t_80 w =>
          gate (some (t_75, true)) (fun K => pvv prog (Instr.indexAt 31 t_79 t_80) w K) w fun t_81 w =>
          bindS (vN (Instr.loadAt 3 t_78)) fun m_83 => gate (some (t_75, true)) (fun K => ldv prog (Instr.loadAt 3 t_78) w K) w fun t_82 w =>
          bindS (vN (Instr.loadAt 3 t_81)) fun m_85 => gate (some (t_75, true)) (fun K => ldv prog (Instr.loadAt 3 t_81) w K) w fun t_84 w =>
          gate (some (t_75, true)) (fun K => Calls prog 83 #[t_82, t_84] w (Ret fun s_134 w => K s_134 w)) w fun t_86 w =>
          pv prog (oPick t_75 t_86 (.bool false)) w fun t_87 w =>
          cd t_87 (
            pvv prog (binOp .add 3 i_73 (.int .i64 1)) w fun t_88 w =>
            again_74 [t_88] w) <|
          lp (fun σ w again_90 => pop σ fun j_89 σ => fin σ <|
            dr w fun w =>
            pvv prog (binOp .leq 3 i_73 j_89) w fun t_91 w =>
            gate (some (t_91, true)) (fun K => K data_p0 w) w fun t_92 w =>
            gate (some (t_91, true)) (fun K => K j_89 w) w fun t_93 w =>
            gate (some (t_91, true)) (fun K => pvv prog (Instr.indexAt 31 t_92 t_93) w K) w fun t_94 w =>
            gate (some (t_91, true)) (fun K => K data_p0 w) w fun t_95 w =>
            gate (some (t_91, true)) (fun K => K a_p1 w) w fun t_96 w =>
            gate (some (t_91, true)) (fun K => pvv prog (Instr.indexAt 31 t_95 t_96) w K) w fun t_97 w =>
            bindS (vN (Instr.loadAt 3 t_94)) fun m_99 => gate (some (t_91, true)) (fun K => ldv prog (Instr.loadAt 3 t_94) w K) w fun t_98 w =>
            bindS (vN (Instr.loadAt 3 t_97)) fun m_101 => gate (some (t_91, true)) (fun K => ldv prog (Instr.loadAt 3 t_97) w K) w fun t_100 w =>
            gate (some (t_91, true)) (fun K => Calls prog 83 #[t_98, t_100] w (Ret fun s_133 w => K s_133 w)) w fun t_102 w =>
            gate (some (t_91, true)) (fun K => pvv prog (Op.unary .not t_102) w K) w fun t_103 w =>
            pv prog (oPick t_91 t_103 (.bool false)) w fun t_104 w =>
            cd t_104 (
              pvv prog (binOp .sub 3 j_89 (.int .i64 1)) w fun t_105 w =>
              again_90 [t_105] w) <|
            pvv prog (binOp .gtr 3 i_73 j_89) w fun t_106 w =>
            cd t_106 (
              dr w fun w =>
              pvv prog (Instr.indexAt 31 data_p0 a_p1) w fun t_107 w =>
              pvv prog (Instr.indexAt 31 data_p0 j_89) w fun t_108 w =>
              bindS (vN (Instr.loadAt 3 t_107)) fun m_110 => ldv prog (Instr.loadAt 3 t_107) w fun t_109 w =>
              bindS (vN (Instr.loadAt 3 t_108)) fun m_112 => ldv prog (Instr.loadAt 3 t_108) w fun t_111 w =>
              pvv prog (Instr.indexAt 31 data_p0 j_89) w fun t_113 w =>
              efu prog (Instr.storeAt 3 t_113 t_109) w fun u_114 w =>
              pvv prog (Instr.indexAt 31 data_p0 a_p1) w fun t_115 w =>
              efu prog (Instr.storeAt 3 t_115 t_111) w fun u_116 w =>
              K (.tuple #[j_89, (.bool false)]) w) <|
            dr w fun w =>
            pvv prog (Instr.indexAt 31 data_p0 j_89) w fun t_119 w =>
            pvv prog (Instr.indexAt 31 data_p0 i_73) w fun t_120 w =>
            bindS (vN (Instr.loadAt 3 t_119)) fun m_122 => ldv prog (Instr.loadAt 3 t_119) w fun t_121 w =>
            bindS (vN (Instr.loadAt 3 t_120)) fun m_124 => ldv prog (Instr.loadAt 3 t_120) w fun t_123 w =>
            pvv prog (Instr.indexAt 31 data_p0 i_73) w fun t_125 w =>
            efu prog (Instr.storeAt 3 t_125 t_121) w fun u_126 w =>
            pvv prog (Instr.indexAt 31 data_p0 j_89) w fun t_127 w =>
            efu prog (Instr.storeAt 3 t_127 t_123) w fun u_128 w =>
            pvv prog (binOp .add 3 i_73 (.int .i64 1)) w fun t_129 w =>
            pvv prog (binOp .sub 3 j_89 (.int .i64 1)) w fun t_130 w =>
            again_72 [t_129, t_130] w) [j_71] w) [i_70] w) [t_68, t_69] w) [t_11] w) [t_10] w
theorem B85_eq (data_p0 a_p1 b_p2 pivot_p3 : Value) (w : World) (K : Value → World → Prop) : denFn prog Tryz.f85 T85 [data_p0, a_p1, b_p2, pivot_p3] w K = B85 data_p0 a_p1 b_p2 pivot_p3 w K := by kernel_rfl
theorem c85 {data_p0 a_p1 b_p2 pivot_p3 : Value} {w : World} {K : Value → World → Prop} (h : B85 data_p0 a_p1 b_p2 pivot_p3 w K) : Calls prog 85 #[data_p0, a_p1, b_p2, pivot_p3] w (Ret K) :=
  denFn_calls Tryz.func85 T85_ok (Eq.mpr (B85_eq data_p0 a_p1 b_p2 pivot_p3 w K) h)

-- 35 slices.pdqsortCmpFunc[holdfast/api.Row]
def T35 : Ann := (.seq .none (.seq .none (.block (.loop 356811923176489970264571492362373784095685646 [1, 2, 3, 10, 11] (.block (.seq .none (.seq (.seq .none (.seq (.seq .none .none) .none)) (.seq (.seq .none (.seq (.seq .none .none) .none)) (.meet 140462610448392 [3] (.seq .none (.seq (.seq .none .none) .none)) (.seq .none (.meet 295111876382333886464 [13, 14] (.seq .none (.seq (.seq .none (.seq .none .none)) .none)) (.meet 2417556491324078996586496 [] (.seq .none (.seq (.seq .none (.seq .none .none)) .none)) (.seq (.seq (.draw [.op 0 .pure, .op 1 .pure, .op 2 .pure, .op 3 .pure, .op 4 .pure, .op 5 .pure, .op 6 .pure, .op 7 .pure, .op 9 .pure, .op 10 .pure, .op 11 .pure, .op 8 .load, .op 12 .load, .op 13 .eff, .op 14 .pure, .op 15 .pure, .op 16 .pure]) (.seq (.seq .none (.seq .none .none)) .none)) (.seq .none (.seq .none (.seq .none (.seq .none (.seq .none (.seq (.seq .none (.seq .none .none)) (.seq .none (.seq .none .none)))))))))))))))))))))
theorem T35_ok : chkFn prog Tryz.f35 T35 = true := by kernel_rfl
def B35 (data_p0 a_p1 b_p2 limit_p3 cmp_p4 : Value) (w : World) (K : Value → World → Prop) : Prop :=
  lp (fun σ w again_5 => pop σ fun a_0 σ => pop σ fun b_1 σ => pop σ fun limit_2 σ => pop σ fun wasBalanced_3 σ => pop σ fun wasPartitioned_4 σ => fin σ <|
    pvv prog (binOp .sub 3 b_1 a_0) w fun t_6 w =>
    pvv prog (binOp .leq 3 t_6 (.int .i64 12)) w fun t_7 w =>
    cd t_7 (
      Calls prog 51 #[data_p0, a_0, b_1, cmp_p4] w (Ret fun t_8 w =>
      K (.tuple #[]) w)) <|
    pvv prog (oEq .eql 3 (.tmp 31) (.const (.int .i64 0)) limit_2 (.int .i64 0)) w fun t_9 w =>
    cd t_9 (
      Calls prog 52 #[data_p0, a_0, b_1, cmp_p4] w (Ret fun t_10 w =>
      K (.tuple #[]) w)) <|
    jn (fun σ w => pop σ fun limit_11 σ => fin σ <|
      Calls prog 54 #[data_p0, a_0, b_1, cmp_p4] w (Ret fun t_12 w =>
      pvv prog (Instr.extract t_12 0) w fun t_13 w =>
      pvv prog (Instr.extract t_12 1) w fun t_14 w =>
      jn (fun σ w => pop σ fun pivot_15 σ => pop σ fun hint_16 σ => fin σ <|
        jn (fun σ w => fin σ <|
          dr w fun w =>
          pvv prog (binOp .gtr 3 a_0 (.int .i64 0)) w fun t_17 w =>
          gate (some (t_17, true)) (fun K => K cmp_p4 w) w fun t_18 w =>
          gate (some (t_17, true)) (fun K => K data_p0 w) w fun t_19 w =>
          gate (some (t_17, true)) (fun K => K a_0 w) w fun t_20 w =>
          gate (some (t_17, true)) (fun K => pvv prog (binOp .sub 3 t_20 (.int .i64 1)) w K) w fun t_21 w =>
          gate (some (t_17, true)) (fun K => pvv prog (Instr.indexAt 40 t_19 t_21) w K) w fun t_22 w =>
          gate (some (t_17, true)) (fun K => K data_p0 w) w fun t_23 w =>
          gate (some (t_17, true)) (fun K => K pivot_15 w) w fun t_24 w =>
          gate (some (t_17, true)) (fun K => pvv prog (Instr.indexAt 40 t_23 t_24) w K) w fun t_25 w =>
          bindS (vN (Instr.loadAt 58 t_22)) fun m_27 => gate (some (t_17, true)) (fun K => ldv prog (Instr.loadAt 58 t_22) w K) w fun t_26 w =>
          bindS (vN (Instr.loadAt 58 t_25)) fun m_29 => gate (some (t_17, true)) (fun K => ldv prog (Instr.loadAt 58 t_25) w K) w fun t_28 w =>
          gate (some (t_17, true)) (fun K => ef prog (oCall t_18 #[t_26, t_28]) w fun s_48 w => K s_48 w) w fun t_30 w =>
          gate (some (t_17, true)) (fun K => pvv prog (binOp .lss 3 t_30 (.int .i64 0)) w K) w fun t_31 w =>
          gate (some (t_17, true)) (fun K => pvv prog (Op.unary .not t_31) w K) w fun t_32 w =>
          pv prog (oPick t_17 t_32 (.bool false)) w fun t_33 w =>
          cd t_33 (
            Calls prog 57 #[data_p0, a_0, b_1, pivot_15, cmp_p4] w (Ret fun t_34 w =>
            again_5 [t_34, b_1, limit_11, wasBalanced_3, wasPartitioned_4] w)) <|
          Calls prog 58 #[data_p0, a_0, b_1, pivot_15, cmp_p4] w (Ret fun t_35 w =>
          pvv prog (Instr.extract t_35 0) w fun t_36 w =>
          pvv prog (Instr.extract t_35 1) w fun t_37 w =>
          pvv prog (binOp .sub 3 t_36 a_0) w fun t_38 w =>
          pvv prog (binOp .sub 3 b_1 t_36) w fun t_39 w =>
          pvv prog (binOp .quo 3 t_6 (.int .i64 8)) w fun t_40 w =>
          pvv prog (binOp .lss 3 t_38 t_39) w fun t_41 w =>
          cd t_41 (
            pvv prog (binOp .geq 3 t_38 t_40) w fun t_42 w =>
            Calls prog 35 #[data_p0, a_0, t_36, limit_11, cmp_p4] w (Ret fun t_43 w =>
            pvv prog (binOp .add 3 t_36 (.int .i64 1)) w fun t_44 w =>
            again_5 [t_44, b_1, limit_11, t_42, t_37] w)) <|
          pvv prog (binOp .geq 3 t_39 t_40) w fun t_45 w =>
          pvv prog (binOp .add 3 t_36 (.int .i64 1)) w fun t_46 w =>
          Calls prog 35 #[data_p0, t_46, b_1, limit_11, cmp_p4] w (Ret fun t_47 w =>
          again_5 [a_0, t_36, limit_11, t_45, t_37] w))) fun k_49 =>
        gate (some (wasBalanced_3, true)) (fun K => K wasPartitioned_4 w) w fun t_50 w =>
        pv prog (oPick wasBalanced_3 t_50 (.bool false)) w fun t_51 w =>
        gate (some (t_51, true)) (fun K => K hint_16 w) w fun t_52 w =>
        gate (some (t_51, true)) (fun K => pvv prog (oEq .eql 87 (.tmp 73) (.const (.int .i64 1)) t_52 (.int .i64 1)) w K) w fun t_53 w =>
        pv prog (oPick t_51 t_53 (.bool false)) w fun t_54 w =>
        cd t_54 (
          Calls prog 56 #[data_p0, a_0, b_1, cmp_p4] w (Ret fun t_55 w =>
          cd t_55 (
            K (.tuple #[]) w) <|
          k_49 [] w)) <|
        k_49 [] w) fun k_56 =>
      pvv prog (oEq .eql 87 (.tmp 55) (.const (.int .i64 2)) t_14 (.int .i64 2)) w fun t_57 w =>
      cd t_57 (
        Calls prog 55 #[data_p0, a_0, b_1, cmp_p4] w (Ret fun t_58 w =>
        pvv prog (binOp .sub 3 b_1 (.int .i64 1)) w fun t_59 w =>
        pvv prog (binOp .sub 3 t_13 a_0) w fun t_60 w =>
        pvv prog (binOp .sub 3 t_59 t_60) w fun t_61 w =>
        k_56 [t_61, (.int .i64 1)] w)) <|
      k_56 [t_13, t_14] w)) fun k_62 =>
    pvv prog (Op.unary .not wasBalanced_3) w fun t_63 w =>
    cd t_63 (
      Calls prog 53 #[data_p0, a_0, b_1, cmp_p4] w (Ret fun t_64 w =>
      pvv prog (binOp .sub 3 limit_2 (.int .i64 1)) w fun t_65 w =>
      k_62 [t_65] w)) <|
    k_62 [limit_2] w) [a_p1, b_p2, limit_p3, (.bool true), (.bool true)] w
theorem B35_eq (data_p0 a_p1 b_p2 limit_p3 cmp_p4 : Value) (w : World) (K : Value → World → Prop) : denFn prog Tryz.f35 T35 [data_p0, a_p1, b_p2, limit_p3, cmp_p4] w K = B35 data_p0 a_p1 b_p2 limit_p3 cmp_p4 w K := by kernel_rfl
theorem c35 {data_p0 a_p1 b_p2 limit_p3 cmp_p4 : Value} {w : World} {K : Value → World → Prop} (h : B35 data_p0 a_p1 b_p2 limit_p3 cmp_p4 w K) : Calls prog 35 #[data_p0, a_p1, b_p2, limit_p3, cmp_p4] w (Ret K) :=
  denFn_calls Tryz.func35 T35_ok (Eq.mpr (B35_eq data_p0 a_p1 b_p2 limit_p3 cmp_p4 w K) h)

-- 90 internal/strconv.formatBits
def T90 : Ann := (.seq .none (.meet 1073217536 [] (.seq .none (.seq .none .none)) (.seq .none (.seq .none (.meet 7516192770 [1] (.seq .none (.seq .none .none)) (.meet 618970019642690128860143618 [13] (.seq .none (.seq (.seq .none (.seq .none (.seq .none (.seq (.block (.loop 288212783965675522 [1, 13] (.seq (.seq .none (.seq .none .none)) (.block (.seq .none (.seq .none .none)))))) (.seq .none .none))))) (.seq .none (.seq (.block (.loop 9671332769940738559713282 [1, 13] (.seq (.seq .none (.seq .none .none)) (.block (.seq .none (.seq .none (.seq .none .none))))))) (.seq .none .none))))) (.meet 19188070608923394260936433664 [13] (.seq .none (.seq (.seq .none .none) .none)) (.seq (.seq .none (.seq (.seq .none .none) .none)) (.seq .none .none)))))))))
theorem T90_ok : chkFn prog Tryz.f90 T90 = true := by kernel_rfl
def B90 (dst_p0 u_p1 base_p2 neg_p3 append__p4 : Value) (w : World) (K : Value → World → Prop) : Prop :=
  jn (fun σ w => fin σ <|
    efv prog (Instr.alloc 137 true (.tuple #[])) w fun a_0 w =>
    jn (fun σ w => pop σ fun u_1 σ => fin σ <|
      jn (fun σ w => pop σ fun i_2 σ => fin σ <|
        jn (fun σ w => pop σ fun i_3 σ => fin σ <|
          cd append__p4 (
            pvv prog (Instr.sliceAt 137 a_0 (some i_3) none none) w fun t_4 w =>
            ef prog (oBi .append #[120, 120] 120 #[false, false] #[dst_p0, t_4]) w fun t_5 w =>
            K (.tuple #[t_5, (.string ⟨#[]⟩)]) w) <|
          pvv prog (Instr.sliceAt 137 a_0 (some i_3) none none) w fun t_6 w =>
          efv prog (convert 120 9 t_6) w fun t_7 w =>
          K (.tuple #[(.slice none 0 0), t_7]) w) fun k_8 =>
        cd neg_p3 (
          pvv prog (binOp .sub 3 i_2 (.int .i64 1)) w fun t_9 w =>
          pvv prog (Instr.indexAt 137 a_0 t_9) w fun t_10 w =>
          efu prog (Instr.storeAt 5 t_10 (.int .u8 45)) w fun u_11 w =>
          k_8 [t_9] w) <|
        k_8 [i_2] w) fun k_12 =>
      Calls prog 102 #[base_p2] w (Ret fun t_13 w =>
      cd t_13 (
        pvv prog (convert 3 74 base_p2) w fun t_14 w =>
        Calls prog 103 #[t_14] w (Ret fun t_15 w =>
        pvv prog (convert 3 74 t_15) w fun t_16 w =>
        pvv prog (convert 3 97 base_p2) w fun t_17 w =>
        pvv prog (convert 3 74 base_p2) w fun t_18 w =>
        pvv prog (binOp .sub 74 t_18 (.int .u64 1)) w fun t_19 w =>
        lp (fun σ w again_22 => pop σ fun u_20 σ => pop σ fun i_21 σ => fin σ <|
          pvv prog (binOp .geq 97 u_20 t_17) w fun t_23 w =>
          cd t_23 (
            pvv prog (binOp .sub 3 i_21 (.int .i64 1)) w fun t_24 w =>
            pvv prog (binOp .and 74 u_20 t_19) w fun t_25 w =>
            pvv prog (Instr.index 9 (.string ⟨#[48, 49, 50, 51, 52, 53, 54, 55, 56, 57, 97, 98, 99, 100, 101, 102, 103, 104, 105, 106, 107, 108, 109, 110, 111, 112, 113, 114, 115, 116, 117, 118, 119, 120, 121, 122]⟩) t_25) w fun t_26 w =>
            pvv prog (Instr.indexAt 137 a_0 t_24) w fun t_27 w =>
            efu prog (Instr.storeAt 5 t_27 t_26) w fun u_28 w =>
            pvv prog (binOp .shr 97 u_20 t_16) w fun t_29 w =>
            again_22 [t_29, t_24] w) <|
          pvv prog (binOp .sub 3 i_21 (.int .i64 1)) w fun t_30 w =>
          pvv prog (Instr.index 9 (.string ⟨#[48, 49, 50, 51, 52, 53, 54, 55, 56, 57, 97, 98, 99, 100, 101, 102, 103, 104, 105, 106, 107, 108, 109, 110, 111, 112, 113, 114, 115, 116, 117, 118, 119, 120, 121, 122]⟩) u_20) w fun t_31 w =>
          pvv prog (Instr.indexAt 137 a_0 t_30) w fun t_32 w =>
          efu prog (Instr.storeAt 5 t_32 t_31) w fun u_33 w =>
          k_12 [t_30] w) [u_1, (.int .i64 65)] w)) <|
      pvv prog (convert 3 97 base_p2) w fun t_34 w =>
      lp (fun σ w again_37 => pop σ fun u_35 σ => pop σ fun i_36 σ => fin σ <|
        pvv prog (binOp .geq 97 u_35 t_34) w fun t_38 w =>
        cd t_38 (
          pvv prog (binOp .sub 3 i_36 (.int .i64 1)) w fun t_39 w =>
          pvv prog (binOp .quo 97 u_35 t_34) w fun t_40 w =>
          pvv prog (binOp .mul 97 t_40 t_34) w fun t_41 w =>
          pvv prog (binOp .sub 97 u_35 t_41) w fun t_42 w =>
          pvv prog (Instr.index 9 (.string ⟨#[48, 49, 50, 51, 52, 53, 54, 55, 56, 57, 97, 98, 99, 100, 101, 102, 103, 104, 105, 106, 107, 108, 109, 110, 111, 112, 113, 114, 115, 116, 117, 118, 119, 120, 121, 122]⟩) t_42) w fun t_43 w =>
          pvv prog (Instr.indexAt 137 a_0 t_39) w fun t_44 w =>
          efu prog (Instr.storeAt 5 t_44 t_43) w fun u_45 w =>
          again_37 [t_40, t_39] w) <|
        pvv prog (binOp .sub 3 i_36 (.int .i64 1)) w fun t_46 w =>
        pvv prog (Instr.index 9 (.string ⟨#[48, 49, 50, 51, 52, 53, 54, 55, 56, 57, 97, 98, 99, 100, 101, 102, 103, 104, 105, 106, 107, 108, 109, 110, 111, 112, 113, 114, 115, 116, 117, 118, 119, 120, 121, 122]⟩) u_35) w fun t_47 w =>
        pvv prog (Instr.indexAt 137 a_0 t_46) w fun t_48 w =>
        efu prog (Instr.storeAt 5 t_48 t_47) w fun u_49 w =>
        k_12 [t_46] w) [u_1, (.int .i64 65)] w)) fun k_50 =>
    cd neg_p3 (
      pvv prog (Op.unary .neg u_p1) w fun t_51 w =>
      k_50 [t_51] w) <|
    k_50 [u_p1] w) fun k_52 =>
  pvv prog (binOp .lss 3 base_p2 (.int .i64 2)) w fun t_53 w =>
  gate (some (t_53, false)) (fun K => K base_p2 w) w fun t_54 w =>
  gate (some (t_53, false)) (fun K => pvv prog (oEq .eql 3 (.tmp 22) (.const (.int .i64 10)) t_54 (.int .i64 10)) w K) w fun t_55 w =>
  pv prog (oPick t_53 (.bool true) t_55) w fun t_56 w =>
  gate (some (t_56, false)) (fun K => K base_p2 w) w fun t_57 w =>
  gate (some (t_56, false)) (fun K => pvv prog (binOp .gtr 3 t_57 (.int .i64 36)) w K) w fun t_58 w =>
  pv prog (oPick t_56 (.bool true) t_58) w fun t_59 w =>
  cd t_59 (
    pvv prog (Instr.makeInterface 9 (.string ⟨#[115, 116, 114, 99, 111, 110, 118, 58, 32, 105, 108, 108, 101, 103, 97, 108, 32, 65, 112, 112, 101, 110, 100, 73, 110, 116, 47, 70, 111, 114, 109, 97, 116, 73, 110, 116, 32, 98, 97, 115, 101]⟩)) w fun t_60 w =>
    efv prog (Instr.panic t_60) w fun u_61 w =>
    k_52 [] w) <|
  k_52 [] w
theorem B90_eq (dst_p0 u_p1 base_p2 neg_p3 append__p4 : Value) (w : World) (K : Value → World → Prop) : denFn prog Tryz.f90 T90 [dst_p0, u_p1, base_p2, neg_p3, append__p4] w K = B90 dst_p0 u_p1 base_p2 neg_p3 append__p4 w K := by kernel_rfl
theorem c90 {dst_p0 u_p1 base_p2 neg_p3 append__p4 : Value} {w : World} {K : Value → World → Prop} (h : B90 dst_p0 u_p1 base_p2 neg_p3 append__p4 w K) : Calls prog 90 #[dst_p0, u_p1, base_p2, neg_p3, append__p4] w (Ret K) :=
  denFn_calls Tryz.func90 T90_ok (Eq.mpr (B90_eq dst_p0 u_p1 base_p2 neg_p3 append__p4 w K) h)

-- 84 slices.partitionEqualOrdered[int]
def T84 : Ann := (.seq .none (.seq (.draw [.op 0 .pure, .op 1 .pure, .op 2 .pure, .op 3 .pure, .op 4 .pure, .op 5 .pure, .op 6 .pure, .op 8 .pure, .op 9 .pure, .op 10 .pure, .op 7 .load, .op 11 .load, .op 12 .pure, .op 13 .eff, .op 14 .pure, .op 15 .eff]) (.seq .none (.seq (.block (.loop 9671406556917032860780032 [9, 10] (.block (.seq (.block (.loop 70368207307264 [9] (.seq (.seq (.draw [.op 0 .pure, .op 1 .pure, .op 2 .pure, .op 3 .pure, .op 4 .pure, .op 5 .pure, .op 6 .pure, .op 8 .pure, .op 9 .pure, .op 10 .pure, .op 7 .load, .op 11 .load, .op 12 .eff, .op 13 .pure, .op 14 .pure]) (.seq .none .none)) (.block .none)))) (.seq (.block (.loop 4611615649683211264 [10] (.seq (.seq (.draw [.op 0 .pure, .op 1 .pure, .op 2 .pure, .op 3 .pure, .op 4 .pure, .op 5 .pure, .op 6 .pure, .op 8 .pure, .op 9 .pure, .op 10 .pure, .op 7 .load, .op 11 .load, .op 12 .eff, .op 13 .pure]) (.seq .none .none)) (.block .none)))) (.seq (.seq .none (.seq .none .none)) (.seq (.draw [.op 0 .pure, .op 1 .pure, .op 2 .pure, .op 3 .pure, .op 4 .pure, .op 5 .pure, .op 6 .pure, .op 8 .pure, .op 9 .pure, .op 10 .pure, .op 7 .load, .op 11 .load, .op 12 .pure, .op 13 .eff, .op 14 .pure, .op 15 .eff]) (.seq .none .none)))))))) (.seq .none .none)))))
theorem T84_ok : chkFn prog Tryz.f84 T84 = true := by kernel_rfl
def B84 (data_p0 a_p1 b_p2 pivot_p3 : Value) (w : World) (K : Value → World → Prop) : Prop :=
  dr w fun w =>
  pvv prog (Instr.indexAt 31 data_p0 pivot_p3) w fun t_0 w =>
  pvv prog (Instr.indexAt 31 data_p0 a_p1) w fun t_1 w =>
  bindS (vN (Instr.loadAt 3 t_0)) fun m_3 => ldv prog (Instr.loadAt 3 t_0) w fun t_2 w =>
  bindS (vN (Instr.loadAt 3 t_1)) fun m_5 => ldv prog (Instr.loadAt 3 t_1) w fun t_4 w =>
  pvv prog (Instr.indexAt 31 data_p0 a_p1) w fun t_6 w =>
  efu prog (Instr.storeAt 3 t_6 t_2) w fun u_7 w =>
  pvv prog (Instr.indexAt 31 data_p0 pivot_p3) w fun t_8 w =>
  efu prog (Instr.storeAt 3 t_8 t_4) w fun u_9 w =>
  pvv prog (binOp .add 3 a_p1 (.int .i64 1)) w fun t_10 w =>
  pvv prog (binOp .sub 3 b_p2 (.int .i64 1)) w fun t_11 w =>
  lp (fun σ w again_14 => pop σ fun i_12 σ => pop σ fun j_13 σ => fin σ <|
    lp (fun σ w again_16 => pop σ fun i_15 σ => fin σ <|
      dr w fun w =>
      pvv prog (binOp .leq 3 i_15 j_13) w fun t_17 w =>
      gate (some (t_17, true)) (fun K => K data_p0 w) w fun t_18 w =>
      gate (some (t_17, true)) (fun K => K a_p1 w) w fun t_19 w =>
      gate (some (t_17, true)) (fun K => pvv prog (Instr.indexAt 31 t_18 t_19) w K) w fun t_20 w =>
      gate (some (t_17, true)) (fun K => K data_p0 w) w fun t_21 w =>
      gate (some (t_17, true)) (fun K => K i_15 w) w fun t_22 w =>
      gate (some (t_17, true)) (fun K => pvv prog (Instr.indexAt 31 t_21 t_22) w K) w fun t_23 w =>
      bindS (vN (Instr.loadAt 3 t_20)) fun m_25 => gate (some (t_17, true)) (fun K => ldv prog (Instr.loadAt 3 t_20) w K) w fun t_24 w =>
      bindS (vN (Instr.loadAt 3 t_23)) fun m_27 => gate (some (t_17, true)) (fun K => ldv prog (Instr.loadAt 3 t_23) w K) w fun t_26 w =>
      gate (some (t_17, true)) (fun K => Calls prog 83 #[t_24, t_26] w (Ret fun s_64 w => K s_64 w)) w fun t_28 w =>
      gate (some (t_17, true)) (fun K => pvv prog (Op.unary .not t_28) w K) w fun t_29 w =>
      pv prog (oPick t_17 t_29 (.bool false)) w fun t_30 w =>
      cd t_30 (
        pvv prog (binOp .add 3 i_15 (.int .i64 1)) w fun t_31 w =>
        again_16 [t_31] w) <|
      lp (fun σ w again_33 => pop σ fun j_32 σ => fin σ <|
        dr w fun w =>
        pvv prog (binOp .leq 3 i_15 j_32) w fun t_34 w =>
        gate (some (t_34, true)) (fun K => K data_p0 w) w fun t_35 w =>
        gate (some (t_34, true)) (fun K => K a_p1 w) w fun t_36 w =>
        gate (some (t_34, true)) (fun K => pvv prog (Instr.indexAt 31 t_35 t_36) w K) w fun t_37 w =>
        gate (some (t_34, true)) (fun K => K data_p0 w) w fun t_38 w =>
        gate (some (t_34, true)) (fun K => K j_32 w) w fun t_39 w =>
        gate (some (t_34, true)) (fun K => pvv prog (Instr.indexAt 31 t_38 t_39) w K) w fun t_40 w =>
        bindS (vN (Instr.loadAt 3 t_37)) fun m_42 => gate (some (t_34, true)) (fun K => ldv prog (Instr.loadAt 3 t_37) w K) w fun t_41 w =>
        bindS (vN (Instr.loadAt 3 t_40)) fun m_44 => gate (some (t_34, true)) (fun K => ldv prog (Instr.loadAt 3 t_40) w K) w fun t_43 w =>
        gate (some (t_34, true)) (fun K => Calls prog 83 #[t_41, t_43] w (Ret fun s_63 w => K s_63 w)) w fun t_45 w =>
        pv prog (oPick t_34 t_45 (.bool false)) w fun t_46 w =>
        cd t_46 (
          pvv prog (binOp .sub 3 j_32 (.int .i64 1)) w fun t_47 w =>
          again_33 [t_47] w) <|
        pvv prog (binOp .gtr 3 i_15 j_32) w fun t_48 w =>
        cd t_48 (
          K i_15 w) <|
        dr w fun w =>
        pvv prog (Instr.indexAt 31 data_p0 j_32) w fun t_49 w =>
        pvv prog (Instr.indexAt 31 data_p0 i_15) w fun t_50 w =>
        bindS (vN (Instr.loadAt 3 t_49)) fun m_52 => ldv prog (Instr.loadAt 3 t_49) w fun t_51 w =>
        bindS (vN (Instr.loadAt 3 t_50)) fun m_54 => ldv prog (Instr.loadAt 3 t_50) w fun t_53 w =>
        pvv prog (Instr.indexAt 31 data_p0 i_15) w fun t_55 w =>
        efu prog (Instr.storeAt 3 t_55 t_51) w fun u_56 w =>
        pvv prog (Instr.indexAt 31 data_p0 j_32) w fun t_57 w =>
        efu prog (Instr.storeAt 3 t_57 t_53) w fun u_58 w =>
        pvv prog (binOp .add 3 i_15 (.int .i64 1)) w fun t_59 w =>
        pvv prog (binOp .sub 3 j_32 (.int .i64 1)) w fun t_60 w =>
        again_14 [t_59, t_60] w) [j_13] w) [i_12] w) [t_10, t_11] w
theorem B84_eq (data_p0 a_p1 b_p2 pivot_p3 : Value) (w : World) (K : Value → World → Prop) : denFn prog Tryz.f84 T84 [data_p0, a_p1, b_p2, pivot_p3] w K = B84 data_p0 a_p1 b_p2 pivot_p3 w K := by kernel_rfl
theorem c84 {data_p0 a_p1 b_p2 pivot_p3 : Value} {w : World} {K : Value → World → Prop} (h : B84 data_p0 a_p1 b_p2 pivot_p3 w K) : Calls prog 84 #[data_p0, a_p1, b_p2, pivot_p3] w (Ret K) :=
  denFn_calls Tryz.func84 T84_ok (Eq.mpr (B84_eq data_p0 a_p1 b_p2 pivot_p3 w K) h)

-- 3 holdfast/holdfastlaw11.SessionNone
def T3 : Ann := (.seq .none (.seq .none (.seq .none (.seq .none (.seq .none (.seq .none (.seq .none (.seq .none .none))))))))
theorem T3_ok : chkFn prog Tryz.f3 T3 = true := by kernel_rfl
def B3 (o_p0 n_p1 : Value) (w : World) (K : Value → World → Prop) : Prop :=
  efv prog (Instr.box 23 o_p0) w fun o_0 w =>
  ldv prog (Instr.loadAt 23 o_0) w fun t_1 w =>
  Calls prog 4 #[(.pointer none), t_1, n_p1] w (Ret fun t_2 w =>
  pvv prog (Instr.extract t_2 0) w fun t_3 w =>
  pvv prog (Instr.extract t_2 1) w fun t_4 w =>
  efv prog (Instr.alloc 26 true (.tuple #[])) w fun t_5 w =>
  efu prog (Instr.storeAt 26 t_5 t_3) w fun u_6 w =>
  Calls prog 5 #[(.pointer none), n_p1, n_p1] w (Ret fun t_7 w =>
  pvv prog (Instr.extract t_7 0) w fun t_8 w =>
  pvv prog (Instr.extract t_7 1) w fun t_9 w =>
  efv prog (Instr.alloc 26 true (.tuple #[])) w fun t_10 w =>
  efu prog (Instr.storeAt 26 t_10 t_8) w fun u_11 w =>
  Calls prog 6 #[(.pointer none), n_p1, n_p1] w (Ret fun t_12 w =>
  pvv prog (Instr.extract t_12 0) w fun t_13 w =>
  pvv prog (Instr.extract t_12 1) w fun t_14 w =>
  efv prog (Instr.alloc 26 true (.tuple #[])) w fun t_15 w =>
  efu prog (Instr.storeAt 26 t_15 t_13) w fun u_16 w =>
  Calls prog 7 #[(.pointer none), n_p1] w (Ret fun t_17 w =>
  pvv prog (Instr.extract t_17 0) w fun t_18 w =>
  pvv prog (Instr.extract t_17 1) w fun t_19 w =>
  ldv prog (Instr.loadAt 23 o_0) w fun t_20 w =>
  Calls prog 8 #[(.pointer none), t_20, n_p1] w (Ret fun t_21 w =>
  pvv prog (Instr.extract t_21 0) w fun t_22 w =>
  pvv prog (Instr.extract t_21 1) w fun t_23 w =>
  Calls prog 9 #[] w (Ret fun t_24 w =>
  gate (some (t_24, true)) (fun K => K t_4 w) w fun t_25 w =>
  gate (some (t_24, true)) (fun K => pvv prog (oEq .eql 27 (.tmp 52) (.const (.int .i64 1)) t_25 (.int .i64 1)) w K) w fun t_26 w =>
  pv prog (oPick t_24 t_26 (.bool false)) w fun t_27 w =>
  gate (some (t_27, true)) (fun K => K t_9 w) w fun t_28 w =>
  gate (some (t_27, true)) (fun K => pvv prog (oEq .eql 27 (.tmp 56) (.const (.int .i64 1)) t_28 (.int .i64 1)) w K) w fun t_29 w =>
  pv prog (oPick t_27 t_29 (.bool false)) w fun t_30 w =>
  gate (some (t_30, true)) (fun K => K t_14 w) w fun t_31 w =>
  gate (some (t_30, true)) (fun K => pvv prog (oEq .eql 27 (.tmp 60) (.const (.int .i64 1)) t_31 (.int .i64 1)) w K) w fun t_32 w =>
  pv prog (oPick t_30 t_32 (.bool false)) w fun t_33 w =>
  gate (some (t_33, true)) (fun K => K t_19 w) w fun t_34 w =>
  gate (some (t_33, true)) (fun K => pvv prog (oEq .eql 27 (.tmp 64) (.const (.int .i64 1)) t_34 (.int .i64 1)) w K) w fun t_35 w =>
  pv prog (oPick t_33 t_35 (.bool false)) w fun t_36 w =>
  gate (some (t_36, true)) (fun K => K t_23 w) w fun t_37 w =>
  gate (some (t_36, true)) (fun K => pvv prog (oEq .eql 27 (.tmp 68) (.const (.int .i64 1)) t_37 (.int .i64 1)) w K) w fun t_38 w =>
  pv prog (oPick t_36 t_38 (.bool false)) w fun t_39 w =>
  gate (some (t_39, true)) (fun K => K (.pointer none) w) w fun t_40 w =>
  gate (some (t_39, true)) (fun K => K n_p1 w) w fun t_41 w =>
  gate (some (t_39, true)) (fun K => Calls prog 10 #[t_40, t_41] w (Ret K)) w fun t_42 w =>
  gate (some (t_39, true)) (fun K => pvv prog (oEq .eql 27 (.tmp 74) (.const (.int .i64 1)) t_42 (.int .i64 1)) w K) w fun t_43 w =>
  pv prog (oPick t_39 t_43 (.bool false)) w fun t_44 w =>
  gate (some (t_44, true)) (fun K => K (.pointer none) w) w fun t_45 w =>
  gate (some (t_44, true)) (fun K => ldv prog (Instr.loadAt 23 o_0) w K) w fun t_46 w =>
  gate (some (t_44, true)) (fun K => Calls prog 11 #[t_45, t_46] w (Ret K)) w fun t_47 w =>
  gate (some (t_44, true)) (fun K => pv prog (oBi .len #[31] 3 #[false] #[t_47]) w K) w fun t_48 w =>
  gate (some (t_44, true)) (fun K => pvv prog (oEq .eql 3 (.tmp 81) (.const (.int .i64 0)) t_48 (.int .i64 0)) w K) w fun t_49 w =>
  pv prog (oPick t_44 t_49 (.bool false)) w fun t_50 w =>
  gate (some (t_50, true)) (fun K => K (.pointer none) w) w fun t_51 w =>
  gate (some (t_50, true)) (fun K => Calls prog 12 #[t_51] w (Ret K)) w fun t_52 w =>
  gate (some (t_50, true)) (fun K => pv prog (oBi .len #[40] 3 #[false] #[t_52]) w K) w fun t_53 w =>
  gate (some (t_50, true)) (fun K => pvv prog (oEq .eql 3 (.tmp 87) (.const (.int .i64 0)) t_53 (.int .i64 0)) w K) w fun t_54 w =>
  pv prog (oPick t_50 t_54 (.bool false)) w fun t_55 w =>
  gate (some (t_55, true)) (fun K => K (.pointer none) w) w fun t_56 w =>
  gate (some (t_55, true)) (fun K => Calls prog 13 #[t_56] w (Ret K)) w fun t_57 w =>
  gate (some (t_55, true)) (fun K => pvv prog (oEq .eql 24 (.tmp 92) (.const (.pointer none)) t_57 (.pointer none)) w K) w fun t_58 w =>
  pv prog (oPick t_55 t_58 (.bool false)) w fun t_59 w =>
  K t_59 w))))))
theorem B3_eq (o_p0 n_p1 : Value) (w : World) (K : Value → World → Prop) : denFn prog Tryz.f3 T3 [o_p0, n_p1] w K = B3 o_p0 n_p1 w K := by kernel_rfl
theorem c3 {o_p0 n_p1 : Value} {w : World} {K : Value → World → Prop} (h : B3 o_p0 n_p1 w K) : Calls prog 3 #[o_p0, n_p1] w (Ret K) :=
  denFn_calls Tryz.func3 T3_ok (Eq.mpr (B3_eq o_p0 n_p1 w K) h)

-- 77 slices.insertionSortOrdered[int]
def T77 : Ann := (.seq .none (.block (.loop 562949953420480 [6] (.seq (.seq .none (.seq .none .none)) (.seq (.block (.seq .none (.block (.loop 562949953355904 [7] (.seq (.seq (.draw [.op 0 .pure, .op 1 .pure, .op 2 .pure, .op 3 .pure, .op 4 .pure, .op 5 .pure, .op 6 .pure, .op 8 .pure, .op 9 .pure, .op 10 .pure, .op 11 .pure, .op 7 .load, .op 12 .load, .op 13 .eff, .op 14 .pure]) (.seq .none .none)) (.seq (.block (.draw [.op 0 .pure, .op 1 .pure, .op 2 .pure, .op 3 .pure, .op 4 .pure, .op 5 .pure, .op 6 .pure, .op 7 .pure, .op 8 .pure, .op 10 .pure, .op 11 .pure, .op 12 .pure, .op 9 .load, .op 13 .load, .op 14 .pure, .op 15 .eff, .op 16 .pure, .op 17 .eff])) .none)))))) .none)))))
theorem T77_ok : chkFn prog Tryz.f77 T77 = true := by kernel_rfl
def B77 (data_p0 a_p1 b_p2 : Value) (w : World) (K : Value → World → Prop) : Prop :=
  pvv prog (binOp .add 3 a_p1 (.int .i64 1)) w fun t_0 w =>
  lp (fun σ w again_2 => pop σ fun i_1 σ => fin σ <|
    pvv prog (binOp .lss 3 i_1 b_p2) w fun t_3 w =>
    cd t_3 (
      lp (fun σ w again_5 => pop σ fun j_4 σ => fin σ <|
        dr w fun w =>
        pvv prog (binOp .gtr 3 j_4 a_p1) w fun t_6 w =>
        gate (some (t_6, true)) (fun K => K data_p0 w) w fun t_7 w =>
        gate (some (t_6, true)) (fun K => K j_4 w) w fun t_8 w =>
        gate (some (t_6, true)) (fun K => pvv prog (Instr.indexAt 31 t_7 t_8) w K) w fun t_9 w =>
        gate (some (t_6, true)) (fun K => K data_p0 w) w fun t_10 w =>
        gate (some (t_6, true)) (fun K => K j_4 w) w fun t_11 w =>
        gate (some (t_6, true)) (fun K => pvv prog (binOp .sub 3 t_11 (.int .i64 1)) w K) w fun t_12 w =>
        gate (some (t_6, true)) (fun K => pvv prog (Instr.indexAt 31 t_10 t_12) w K) w fun t_13 w =>
        bindS (vN (Instr.loadAt 3 t_9)) fun m_15 => gate (some (t_6, true)) (fun K => ldv prog (Instr.loadAt 3 t_9) w K) w fun t_14 w =>
        bindS (vN (Instr.loadAt 3 t_13)) fun m_17 => gate (some (t_6, true)) (fun K => ldv prog (Instr.loadAt 3 t_13) w K) w fun t_16 w =>
        gate (some (t_6, true)) (fun K => Calls prog 83 #[t_14, t_16] w (Ret fun s_36 w => K s_36 w)) w fun t_18 w =>
        pv prog (oPick t_6 t_18 (.bool false)) w fun t_19 w =>
        cd t_19 (
          dr w fun w =>
          pvv prog (binOp .sub 3 j_4 (.int .i64 1)) w fun t_20 w =>
          pvv prog (binOp .sub 3 j_4 (.int .i64 1)) w fun t_21 w =>
          pvv prog (Instr.indexAt 31 data_p0 t_21) w fun t_22 w =>
          pvv prog (Instr.indexAt 31 data_p0 j_4) w fun t_23 w =>
          bindS (vN (Instr.loadAt 3 t_22)) fun m_25 => ldv prog (Instr.loadAt 3 t_22) w fun t_24 w =>
          bindS (vN (Instr.loadAt 3 t_23)) fun m_27 => ldv prog (Instr.loadAt 3 t_23) w fun t_26 w =>
          pvv prog (Instr.indexAt 31 data_p0 j_4) w fun t_28 w =>
          efu prog (Instr.storeAt 3 t_28 t_24) w fun u_29 w =>
          pvv prog (Instr.indexAt 31 data_p0 t_20) w fun t_30 w =>
          efu prog (Instr.storeAt 3 t_30 t_26) w fun u_31 w =>
          pvv prog (binOp .sub 3 j_4 (.int .i64 1)) w fun t_32 w =>
          again_5 [t_32] w) <|
        pvv prog (binOp .add 3 i_1 (.int .i64 1)) w fun t_35 w =>
        again_2 [t_35] w) [i_1] w) <|
    K (.tuple #[]) w) [t_0] w
theorem B77_eq (data_p0 a_p1 b_p2 : Value) (w : World) (K : Value → World → Prop) : denFn prog Tryz.f77 T77 [data_p0, a_p1, b_p2] w K = B77 data_p0 a_p1 b_p2 w K := by kernel_rfl
theorem c77 {data_p0 a_p1 b_p2 : Value} {w : World} {K : Value → World → Prop} (h : B77 data_p0 a_p1 b_p2 w K) : Calls prog 77 #[data_p0, a_p1, b_p2] w (Ret K) :=
  denFn_calls Tryz.func77 T77_ok (Eq.mpr (B77_eq data_p0 a_p1 b_p2 w K) h)

-- 68 internal/strconv.FormatInt
def T68 : Ann := (.seq .none (.seq (.seq .none (.seq (.seq (.seq .none (.seq (.seq .none .none) .none)) (.seq .none (.seq .none (.meet 62914624 [6] (.seq .none (.seq .none .none)) (.seq .none (.seq .none (.seq (.seq .none (.seq (.seq .none (.seq .none .none)) .none)) (.seq .none .none)))))))) .none)) (.seq .none (.seq .none .none))))
theorem T68_ok : chkFn prog Tryz.f68 T68 = true := by kernel_rfl
def B68 (i_p0 base_p1 : Value) (w : World) (K : Value → World → Prop) : Prop :=
  pvv prog (oEq .eql 3 (.tmp 10) (.const (.int .i64 10)) base_p1 (.int .i64 10)) w fun t_0 w =>
  cd t_0 (
    pvv prog (binOp .leq 2 (.int .i64 0) i_p0) w fun t_1 w =>
    gate (some (t_1, true)) (fun K => K i_p0 w) w fun t_2 w =>
    gate (some (t_1, true)) (fun K => pvv prog (binOp .lss 2 t_2 (.int .i64 100)) w K) w fun t_3 w =>
    pv prog (oPick t_1 t_3 (.bool false)) w fun t_4 w =>
    cd t_4 (
      Calls prog 87 #[i_p0] w (Ret fun t_5 w =>
      K t_5 w)) <|
    efv prog (Instr.alloc 118 true (.tuple #[])) w fun a_6 w =>
    pvv prog (convert 2 97 i_p0) w fun t_7 w =>
    jn (fun σ w => pop σ fun u_8 σ => fin σ <|
      Calls prog 88 #[u_8] w (Ret fun t_9 w =>
      pvv prog (binOp .add 3 (.int .i64 1) t_9) w fun t_10 w =>
      pvv prog (Instr.sliceAt 118 a_6 (some (.int .i64 1)) (some t_10) none) w fun t_11 w =>
      Calls prog 89 #[t_11, u_8] w (Ret fun t_12 w =>
      pvv prog (binOp .lss 2 i_p0 (.int .i64 0)) w fun t_13 w =>
      cd t_13 (
        pvv prog (Instr.indexAt 118 a_6 (.int .i64 0)) w fun t_14 w =>
        efu prog (Instr.storeAt 5 t_14 (.int .u8 45)) w fun u_15 w =>
        pvv prog (binOp .add 3 (.int .i64 1) t_9) w fun t_16 w =>
        pvv prog (Instr.sliceAt 118 a_6 none (some t_16) none) w fun t_17 w =>
        efv prog (convert 120 9 t_17) w fun t_18 w =>
        K t_18 w) <|
      pvv prog (binOp .add 3 (.int .i64 1) t_9) w fun t_19 w =>
      pvv prog (Instr.sliceAt 118 a_6 (some (.int .i64 1)) (some t_19) none) w fun t_20 w =>
      efv prog (convert 120 9 t_20) w fun t_21 w =>
      K t_21 w))) fun k_22 =>
    pvv prog (binOp .lss 2 i_p0 (.int .i64 0)) w fun t_23 w =>
    cd t_23 (
      pvv prog (Op.unary .neg t_7) w fun t_24 w =>
      k_22 [t_24] w) <|
    k_22 [t_7] w) <|
  pvv prog (convert 2 97 i_p0) w fun t_25 w =>
  pvv prog (binOp .lss 2 i_p0 (.int .i64 0)) w fun t_26 w =>
  Calls prog 90 #[(.slice none 0 0), t_25, base_p1, t_26, (.bool false)] w (Ret fun t_27 w =>
  pvv prog (Instr.extract t_27 0) w fun t_28 w =>
  pvv prog (Instr.extract t_27 1) w fun t_29 w =>
  K t_29 w)
theorem B68_eq (i_p0 base_p1 : Value) (w : World) (K : Value → World → Prop) : denFn prog Tryz.f68 T68 [i_p0, base_p1] w K = B68 i_p0 base_p1 w K := by kernel_rfl
theorem c68 {i_p0 base_p1 : Value} {w : World} {K : Value → World → Prop} (h : B68 i_p0 base_p1 w K) : Calls prog 68 #[i_p0, base_p1] w (Ret K) :=
  denFn_calls Tryz.func68 T68_ok (Eq.mpr (B68_eq i_p0 base_p1 w K) h)

-- 78 slices.heapSortOrdered[int]
def T78 : Ann := (.seq .none (.seq .none (.seq .none (.seq (.seq .none (.block (.loop 133956096 [9] (.seq (.seq .none (.seq .none .none)) (.seq (.block .none) .none))))) (.seq .none (.block (.loop 72057593501058048 [10] (.seq (.seq .none (.seq .none .none)) (.seq (.block (.seq (.draw [.op 0 .pure, .op 1 .pure, .op 2 .pure, .op 3 .pure, .op 4 .pure, .op 5 .pure, .op 6 .pure, .op 7 .pure, .op 8 .pure, .op 9 .pure, .op 10 .pure, .op 12 .pure, .op 13 .pure, .op 14 .pure, .op 11 .load, .op 15 .load, .op 16 .pure, .op 17 .eff, .op 18 .pure, .op 19 .eff]) .none)) .none)))))))))
theorem T78_ok : chkFn prog Tryz.f78 T78 = true := by kernel_rfl
def B78 (data_p0 a_p1 b_p2 : Value) (w : World) (K : Value → World → Prop) : Prop :=
  pvv prog (binOp .sub 3 b_p2 a_p1) w fun t_0 w =>
  pvv prog (binOp .sub 3 t_0 (.int .i64 1)) w fun t_1 w =>
  pvv prog (binOp .quo 3 t_1 (.int .i64 2)) w fun t_2 w =>
  lp (fun σ w again_4 => pop σ fun i_3 σ => fin σ <|
    pvv prog (binOp .geq 3 i_3 (.int .i64 0)) w fun t_5 w =>
    cd t_5 (
      Calls prog 96 #[data_p0, i_3, t_0, a_p1] w (Ret fun t_6 w =>
      pvv prog (binOp .sub 3 i_3 (.int .i64 1)) w fun t_7 w =>
      again_4 [t_7] w)) <|
    pvv prog (binOp .sub 3 t_0 (.int .i64 1)) w fun t_8 w =>
    lp (fun σ w again_10 => pop σ fun i_9 σ => fin σ <|
      pvv prog (binOp .geq 3 i_9 (.int .i64 0)) w fun t_11 w =>
      cd t_11 (
        dr w fun w =>
        pvv prog (binOp .add 3 a_p1 i_9) w fun t_12 w =>
        pvv prog (binOp .add 3 a_p1 i_9) w fun t_13 w =>
        pvv prog (Instr.indexAt 31 data_p0 t_13) w fun t_14 w =>
        pvv prog (Instr.indexAt 31 data_p0 a_p1) w fun t_15 w =>
        bindS (vN (Instr.loadAt 3 t_14)) fun m_17 => ldv prog (Instr.loadAt 3 t_14) w fun t_16 w =>
        bindS (vN (Instr.loadAt 3 t_15)) fun m_19 => ldv prog (Instr.loadAt 3 t_15) w fun t_18 w =>
        pvv prog (Instr.indexAt 31 data_p0 a_p1) w fun t_20 w =>
        efu prog (Instr.storeAt 3 t_20 t_16) w fun u_21 w =>
        pvv prog (Instr.indexAt 31 data_p0 t_12) w fun t_22 w =>
        efu prog (Instr.storeAt 3 t_22 t_18) w fun u_23 w =>
        Calls prog 96 #[data_p0, (.int .i64 0), i_9, a_p1] w (Ret fun t_24 w =>
        pvv prog (binOp .sub 3 i_9 (.int .i64 1)) w fun t_25 w =>
        again_10 [t_25] w)) <|
      K (.tuple #[]) w) [t_8] w) [t_2] w
theorem B78_eq (data_p0 a_p1 b_p2 : Value) (w : World) (K : Value → World → Prop) : denFn prog Tryz.f78 T78 [data_p0, a_p1, b_p2] w K = B78 data_p0 a_p1 b_p2 w K := by kernel_rfl
theorem c78 {data_p0 a_p1 b_p2 : Value} {w : World} {K : Value → World → Prop} (h : B78 data_p0 a_p1 b_p2 w K) : Calls prog 78 #[data_p0, a_p1, b_p2] w (Ret K) :=
  denFn_calls Tryz.func78 T78_ok (Eq.mpr (B78_eq data_p0 a_p1 b_p2 w K) h)

-- 71 (*slices.xorshift).Next
def T71 : Ann := (.seq .none (.seq (.draw [.op 0 .pure, .op 1 .pure, .op 3 .pure, .op 4 .pure, .op 2 .load, .op 5 .load, .op 6 .pure, .op 7 .pure, .op 8 .pure, .op 9 .eff]) (.seq (.draw [.op 0 .pure, .op 1 .pure, .op 3 .pure, .op 4 .pure, .op 2 .load, .op 5 .load, .op 6 .pure, .op 7 .pure, .op 8 .pure, .op 9 .eff]) (.seq (.draw [.op 0 .pure, .op 1 .pure, .op 3 .pure, .op 4 .pure, .op 2 .load, .op 5 .load, .op 6 .pure, .op 7 .pure, .op 8 .pure, .op 9 .eff]) (.seq .none .none)))))
theorem T71_ok : chkFn prog Tryz.f71 T71 = true := by kernel_rfl
def B71 (r_p0 : Value) (w : World) (K : Value → World → Prop) : Prop :=
  dr w fun w =>
  pv prog (oNil r_p0) w fun t_0 w =>
  pv prog (oNil r_p0) w fun t_1 w =>
  bindS (vN (Instr.loadAt 104 t_0)) fun m_3 => ldv prog (Instr.loadAt 104 t_0) w fun t_2 w =>
  bindS (vN (Instr.loadAt 104 t_1)) fun m_5 => ldv prog (Instr.loadAt 104 t_1) w fun t_4 w =>
  pvv prog (binOp .shl 104 t_4 (.int .u64 13)) w fun t_6 w =>
  pvv prog (binOp .xor 104 t_2 t_6) w fun t_7 w =>
  pv prog (oNil r_p0) w fun t_8 w =>
  efu prog (Instr.storeAt 104 t_8 t_7) w fun u_9 w =>
  dr w fun w =>
  pv prog (oNil r_p0) w fun t_10 w =>
  pv prog (oNil r_p0) w fun t_11 w =>
  bindS (vN (Instr.loadAt 104 t_10)) fun m_13 => ldv prog (Instr.loadAt 104 t_10) w fun t_12 w =>
  bindS (vN (Instr.loadAt 104 t_11)) fun m_15 => ldv prog (Instr.loadAt 104 t_11) w fun t_14 w =>
  pvv prog (binOp .shr 104 t_14 (.int .u64 7)) w fun t_16 w =>
  pvv prog (binOp .xor 104 t_12 t_16) w fun t_17 w =>
  pv prog (oNil r_p0) w fun t_18 w =>
  efu prog (Instr.storeAt 104 t_18 t_17) w fun u_19 w =>
  dr w fun w =>
  pv prog (oNil r_p0) w fun t_20 w =>
  pv prog (oNil r_p0) w fun t_21 w =>
  bindS (vN (Instr.loadAt 104 t_20)) fun m_23 => ldv prog (Instr.loadAt 104 t_20) w fun t_22 w =>
  bindS (vN (Instr.loadAt 104 t_21)) fun m_25 => ldv prog (Instr.loadAt 104 t_21) w fun t_24 w =>
  pvv prog (binOp .shl 104 t_24 (.int .u64 17)) w fun t_26 w =>
  pvv prog (binOp .xor 104 t_22 t_26) w fun t_27 w =>
  pv prog (oNil r_p0) w fun t_28 w =>
  efu prog (Instr.storeAt 104 t_28 t_27) w fun u_29 w =>
  pv prog (oNil r_p0) w fun t_30 w =>
  ldv prog (Instr.loadAt 104 t_30) w fun t_31 w =>
  K t_31 w
theorem B71_eq (r_p0 : Value) (w : World) (K : Value → World → Prop) : denFn prog Tryz.f71 T71 [r_p0] w K = B71 r_p0 w K := by kernel_rfl
theorem c71 {r_p0 : Value} {w : World} {K : Value → World → Prop} (h : B71 r_p0 w K) : Calls prog 71 #[r_p0] w (Ret K) :=
  denFn_calls Tryz.func71 T71_ok (Eq.mpr (B71_eq r_p0 w K) h)

-- 5 (*holdfast/session.Table).Touch
def T5 : Ann := (.seq .none (.seq .none (.meet 4294836224 [] (.seq .none (.seq (.seq .none (.draw [.op 0 .pure, .op 1 .pure, .op 2 .pure, .op 4 .pure, .op 3 .load, .op 5 .load, .op 6 .eff])) .none)) (.seq .none .none))))
theorem T5_ok : chkFn prog Tryz.f5 T5 = true := by kernel_rfl
def B5 (t_p0 id_p1 now_p2 : Value) (w : World) (K : Value → World → Prop) : Prop :=
  efv prog (Instr.alloc 26 true (.tuple #[])) w fun t_0 w =>
  Calls prog 6 #[t_p0, id_p1, now_p2] w (Ret fun t_1 w =>
  pvv prog (Instr.extract t_1 0) w fun t_2 w =>
  pvv prog (Instr.extract t_1 1) w fun t_3 w =>
  efv prog (Instr.alloc 26 true (.tuple #[])) w fun s_4 w =>
  efu prog (Instr.storeAt 26 s_4 t_2) w fun u_5 w =>
  jn (fun σ w => fin σ <|
    ldv prog (Instr.loadAt 26 s_4) w fun t_6 w =>
    efu prog (Instr.storeAt 26 t_0 t_6) w fun u_7 w =>
    ∃ r_8, (do loadVar 26 (← asAddr t_0)).run prog w = .ok r_8 w ∧ K (.tuple #[r_8, t_3]) w) fun k_9 =>
  pvv prog (oEq .eql 27 (.tmp 17) (.const (.int .i64 0)) t_3 (.int .i64 0)) w fun t_10 w =>
  cd t_10 (
    pvv prog (Instr.fieldAt 26 s_4 3) w fun t_11 w =>
    efu prog (Instr.storeAt 3 t_11 now_p2) w fun u_12 w =>
    pv prog (oNil t_p0) w fun t_13 w =>
    pvv prog (Instr.fieldAt 49 t_13 0) w fun t_14 w =>
    pvv prog (Instr.fieldAt 46 t_14 0) w fun t_15 w =>
    efu prog (Instr.storeAt 3 t_15 now_p2) w fun u_16 w =>
    dr w fun w =>
    pv prog (oNil t_p0) w fun t_17 w =>
    pvv prog (Instr.fieldAt 49 t_17 2) w fun t_18 w =>
    bindS (vN (Instr.loadAt 47 t_18)) fun m_20 => ldv prog (Instr.loadAt 47 t_18) w fun t_19 w =>
    bindS (vN (Instr.loadAt 26 s_4)) fun m_22 => ldv prog (Instr.loadAt 26 s_4) w fun t_21 w =>
    efu prog (Instr.mapUpdate 47 t_19 id_p1 t_21) w fun u_23 w =>
    k_9 [] w) <|
  k_9 [] w)
theorem B5_eq (t_p0 id_p1 now_p2 : Value) (w : World) (K : Value → World → Prop) : denFn prog Tryz.f5 T5 [t_p0, id_p1, now_p2] w K = B5 t_p0 id_p1 now_p2 w K := by kernel_rfl
theorem c5 {t_p0 id_p1 now_p2 : Value} {w : World} {K : Value → World → Prop} (h : B5 t_p0 id_p1 now_p2 w K) : Calls prog 5 #[t_p0, id_p1, now_p2] w (Ret K) :=
  denFn_calls Tryz.func5 T5_ok (Eq.mpr (B5_eq t_p0 id_p1 now_p2 w K) h)

-- 45 strings.trimRightUnicode
def T45 : Ann := (.seq .none (.meet 8589934561 [0] (.block (.loop 8589934561 [0] (.seq (.seq .none (.seq .none .none)) (.block (.seq .none (.meet 8323168 [5, 6] (.seq .none (.seq .none .none)) (.seq (.seq .none (.seq .none .none)) .none))))))) (.seq .none .none)))
theorem T45_ok : chkFn prog Tryz.f45 T45 = true := by kernel_rfl
def B45 (s_p0 cutset_p1 : Value) (w : World) (K : Value → World → Prop) : Prop :=
  jn (fun σ w => pop σ fun s_0 σ => fin σ <|
    K s_0 w) fun k_1 =>
  lp (fun σ w again_3 => pop σ fun s_2 σ => fin σ <|
    pv prog (oBi .len #[9] 3 #[false] #[s_2]) w fun t_4 w =>
    pvv prog (binOp .gtr 3 t_4 (.int .i64 0)) w fun t_5 w =>
    cd t_5 (
      pv prog (oBi .len #[9] 3 #[false] #[s_2]) w fun t_6 w =>
      pvv prog (binOp .sub 3 t_6 (.int .i64 1)) w fun t_7 w =>
      pvv prog (Instr.index 9 s_2 t_7) w fun t_8 w =>
      pvv prog (convert 5 21 t_8) w fun t_9 w =>
      jn (fun σ w => pop σ fun r_10 σ => pop σ fun n_11 σ => fin σ <|
        Calls prog 63 #[cutset_p1, r_10] w (Ret fun t_12 w =>
        pvv prog (Op.unary .not t_12) w fun t_13 w =>
        cd t_13 (
          k_1 [s_2] w) <|
        pv prog (oBi .len #[9] 3 #[false] #[s_2]) w fun t_14 w =>
        pvv prog (binOp .sub 3 t_14 n_11) w fun t_15 w =>
        pvv prog (Instr.sliceAt 9 s_2 none (some t_15) none) w fun t_16 w =>
        again_3 [t_16] w)) fun k_17 =>
      pvv prog (binOp .geq 21 t_9 (.int .i32 128)) w fun t_18 w =>
      cd t_18 (
        Calls prog 64 #[s_2] w (Ret fun t_19 w =>
        pvv prog (Instr.extract t_19 0) w fun t_20 w =>
        pvv prog (Instr.extract t_19 1) w fun t_21 w =>
        k_17 [t_20, t_21] w)) <|
      k_17 [t_9, (.int .i64 1)] w) <|
    k_1 [s_2] w) [s_p0] w
theorem B45_eq (s_p0 cutset_p1 : Value) (w : World) (K : Value → World → Prop) : denFn prog Tryz.f45 T45 [s_p0, cutset_p1] w K = B45 s_p0 cutset_p1 w K := by kernel_rfl
theorem c45 {s_p0 cutset_p1 : Value} {w : World} {K : Value → World → Prop} (h : B45 s_p0 cutset_p1 w K) : Calls prog 45 #[s_p0, cutset_p1] w (Ret K) :=
  denFn_calls Tryz.func45 T45_ok (Eq.mpr (B45_eq s_p0 cutset_p1 w K) h)

-- 41 strings.makeASCIISet
def T41 : Ann := (.seq .none (.seq (.seq .none (.block (.loop 1048568 [4] (.seq (.seq .none (.seq .none .none)) (.seq (.block (.seq .none (.seq (.seq .none (.seq (.seq .none .none) .none)) .none))) .none))))) (.seq .none .none)))
theorem T41_ok : chkFn prog Tryz.f41 T41 = true := by kernel_rfl
def B41 (chars_p0 : Value) (w : World) (K : Value → World → Prop) : Prop :=
  efv prog (Instr.alloc 78 true (.tuple #[])) w fun as_0 w =>
  lp (fun σ w again_2 => pop σ fun i_1 σ => fin σ <|
    pv prog (oBi .len #[9] 3 #[false] #[chars_p0]) w fun t_3 w =>
    pvv prog (binOp .lss 3 i_1 t_3) w fun t_4 w =>
    cd t_4 (
      pvv prog (Instr.index 9 chars_p0 i_1) w fun t_5 w =>
      pvv prog (binOp .geq 5 t_5 (.int .u8 128)) w fun t_6 w =>
      cd t_6 (
        ldv prog (Instr.loadAt 78 as_0) w fun t_7 w =>
        efu prog (Instr.storeAt 78 as_0 t_7) w fun u_8 w =>
        ∃ r_9, (do loadVar 78 (← asAddr as_0)).run prog w = .ok r_9 w ∧ K (.tuple #[r_9, (.bool false)]) w) <|
      pvv prog (Instr.indexAt 78 as_0 t_5) w fun t_10 w =>
      efu prog (Instr.storeAt 4 t_10 (.bool true)) w fun u_11 w =>
      pvv prog (binOp .add 3 i_1 (.int .i64 1)) w fun t_12 w =>
      again_2 [t_12] w) <|
    ldv prog (Instr.loadAt 78 as_0) w fun t_13 w =>
    efu prog (Instr.storeAt 78 as_0 t_13) w fun u_14 w =>
    ∃ r_15, (do loadVar 78 (← asAddr as_0)).run prog w = .ok r_15 w ∧ K (.tuple #[r_15, (.bool true)]) w) [(.int .i64 0)] w
theorem B41_eq (chars_p0 : Value) (w : World) (K : Value → World → Prop) : denFn prog Tryz.f41 T41 [chars_p0] w K = B41 chars_p0 w K := by kernel_rfl
theorem c41 {chars_p0 : Value} {w : World} {K : Value → World → Prop} (h : B41 chars_p0 w K) : Calls prog 41 #[chars_p0] w (Ret K) :=
  denFn_calls Tryz.func41 T41_ok (Eq.mpr (B41_eq chars_p0 w K) h)

-- 91 slices.order2CmpFunc[holdfast/api.Row]
def T91 : Ann := (.seq .none (.seq (.seq (.draw [.op 0 .pure, .op 1 .pure, .op 2 .pure, .op 3 .pure, .op 5 .pure, .op 6 .pure, .op 7 .pure, .op 4 .load, .op 8 .load, .op 9 .eff, .op 10 .pure]) (.seq (.seq .none (.seq .none .none)) .none)) (.seq .none .none)))
theorem T91_ok : chkFn prog Tryz.f91 T91 = true := by kernel_rfl
def B91 (data_p0 a_p1 b_p2 swaps_p3 cmp_p4 : Value) (w : World) (K : Value → World → Prop) : Prop :=
  dr w fun w =>
  pvv prog (Instr.indexAt 40 data_p0 b_p2) w fun t_0 w =>
  pvv prog (Instr.indexAt 40 data_p0 a_p1) w fun t_1 w =>
  bindS (vN (Instr.loadAt 58 t_0)) fun m_3 => ldv prog (Instr.loadAt 58 t_0) w fun t_2 w =>
  bindS (vN (Instr.loadAt 58 t_1)) fun m_5 => ldv prog (Instr.loadAt 58 t_1) w fun t_4 w =>
  ef prog (oCall cmp_p4 #[t_2, t_4]) w fun t_6 w =>
  pvv prog (binOp .lss 3 t_6 (.int .i64 0)) w fun t_7 w =>
  cd t_7 (
    pv prog (oNil swaps_p3) w fun t_8 w =>
    ldv prog (Instr.loadAt 3 t_8) w fun t_9 w =>
    pvv prog (binOp .add 3 t_9 (.int .i64 1)) w fun t_10 w =>
    pv prog (oNil swaps_p3) w fun t_11 w =>
    efu prog (Instr.storeAt 3 t_11 t_10) w fun u_12 w =>
    K (.tuple #[b_p2, a_p1]) w) <|
  K (.tuple #[a_p1, b_p2]) w
theorem B91_eq (data_p0 a_p1 b_p2 swaps_p3 cmp_p4 : Value) (w : World) (K : Value → World → Prop) : denFn prog Tryz.f91 T91 [data_p0, a_p1, b_p2, swaps_p3, cmp_p4] w K = B91 data_p0 a_p1 b_p2 swaps_p3 cmp_p4 w K := by kernel_rfl
theorem c91 {data_p0 a_p1 b_p2 swaps_p3 cmp_p4 : Value} {w : World} {K : Value → World → Prop} (h : B91 data_p0 a_p1 b_p2 swaps_p3 cmp_p4 w K) : Calls prog 91 #[data_p0, a_p1, b_p2, swaps_p3, cmp_p4] w (Ret K) :=
  denFn_calls Tryz.func91 T91_ok (Eq.mpr (B91_eq data_p0 a_p1 b_p2 swaps_p3 cmp_p4 w K) h)

-- 73 slices.medianCmpFunc[holdfast/api.Row]
def T73 : Ann := (.seq .none (.seq .none (.seq .none (.seq .none (.seq .none .none)))))
theorem T73_ok : chkFn prog Tryz.f73 T73 = true := by kernel_rfl
def B73 (data_p0 a_p1 b_p2 c_p3 swaps_p4 cmp_p5 : Value) (w : World) (K : Value → World → Prop) : Prop :=
  Calls prog 91 #[data_p0, a_p1, b_p2, swaps_p4, cmp_p5] w (Ret fun t_0 w =>
  pvv prog (Instr.extract t_0 0) w fun t_1 w =>
  pvv prog (Instr.extract t_0 1) w fun t_2 w =>
  Calls prog 91 #[data_p0, t_2, c_p3, swaps_p4, cmp_p5] w (Ret fun t_3 w =>
  pvv prog (Instr.extract t_3 0) w fun t_4 w =>
  pvv prog (Instr.extract t_3 1) w fun t_5 w =>
  Calls prog 91 #[data_p0, t_1, t_4, swaps_p4, cmp_p5] w (Ret fun t_6 w =>
  pvv prog (Instr.extract t_6 0) w fun t_7 w =>
  pvv prog (Instr.extract t_6 1) w fun t_8 w =>
  K t_8 w)))
theorem B73_eq (data_p0 a_p1 b_p2 c_p3 swaps_p4 cmp_p5 : Value) (w : World) (K : Value → World → Prop) : denFn prog Tryz.f73 T73 [data_p0, a_p1, b_p2, c_p3, swaps_p4, cmp_p5] w K = B73 data_p0 a_p1 b_p2 c_p3 swaps_p4 cmp_p5 w K := by kernel_rfl
theorem c73 {data_p0 a_p1 b_p2 c_p3 swaps_p4 cmp_p5 : Value} {w : World} {K : Value → World → Prop} (h : B73 data_p0 a_p1 b_p2 c_p3 swaps_p4 cmp_p5 w K) : Calls prog 73 #[data_p0, a_p1, b_p2, c_p3, swaps_p4, cmp_p5] w (Ret K) :=
  denFn_calls Tryz.func73 T73_ok (Eq.mpr (B73_eq data_p0 a_p1 b_p2 c_p3 swaps_p4 cmp_p5 w K) h)

-- 86 internal/stringslite.HasPrefix
def T86 : Ann := (.seq .none (.seq .none .none))
theorem T86_ok : chkFn prog Tryz.f86 T86 = true := by kernel_rfl
def B86 (s_p0 prefix_p1 : Value) (w : World) (K : Value → World → Prop) : Prop :=
  pv prog (oBi .len #[9] 3 #[false] #[s_p0]) w fun t_0 w =>
  pv prog (oBi .len #[9] 3 #[false] #[prefix_p1]) w fun t_1 w =>
  pvv prog (binOp .geq 3 t_0 t_1) w fun t_2 w =>
  gate (some (t_2, true)) (fun K => K s_p0 w) w fun t_3 w =>
  gate (some (t_2, true)) (fun K => K prefix_p1 w) w fun t_4 w =>
  gate (some (t_2, true)) (fun K => pv prog (oBi .len #[9] 3 #[false] #[t_4]) w K) w fun t_5 w =>
  gate (some (t_2, true)) (fun K => pvv prog (Instr.sliceAt 9 t_3 none (some t_5) none) w K) w fun t_6 w =>
  gate (some (t_2, true)) (fun K => K prefix_p1 w) w fun t_7 w =>
  gate (some (t_2, true)) (fun K => pvv prog (oEq .eql 9 (.tmp 14) (.tmp 15) t_6 t_7) w K) w fun t_8 w =>
  pv prog (oPick t_2 t_8 (.bool false)) w fun t_9 w =>
  K t_9 w
theorem B86_eq (s_p0 prefix_p1 : Value) (w : World) (K : Value → World → Prop) : denFn prog Tryz.f86 T86 [s_p0, prefix_p1] w K = B86 s_p0 prefix_p1 w K := by kernel_rfl
theorem c86 {s_p0 prefix_p1 : Value} {w : World} {K : Value → World → Prop} (h : B86 s_p0 prefix_p1 w K) : Calls prog 86 #[s_p0, prefix_p1] w (Ret K) :=
  denFn_calls Tryz.func86 T86_ok (Eq.mpr (B86_eq s_p0 prefix_p1 w K) h)

-- 93 unicode/utf8.ValidRune
def T93 : Ann := (.seq .none (.seq (.block (.seq .none (.seq (.seq .none .none) (.seq .none (.seq (.seq .none .none) .none))))) (.seq .none .none)))
theorem T93_ok : chkFn prog Tryz.f93 T93 = true := by kernel_rfl
def B93 (r_p0 : Value) (w : World) (K : Value → World → Prop) : Prop :=
  pvv prog (binOp .leq 21 (.int .i32 0) r_p0) w fun t_0 w =>
  gate (some (t_0, true)) (fun K => K r_p0 w) w fun t_1 w =>
  gate (some (t_0, true)) (fun K => pvv prog (binOp .lss 21 t_1 (.int .i32 55296)) w K) w fun t_2 w =>
  pv prog (oPick t_0 t_2 (.bool false)) w fun t_3 w =>
  cd t_3 (
    K (.bool true) w) <|
  pvv prog (binOp .lss 21 (.int .i32 57343) r_p0) w fun t_4 w =>
  gate (some (t_4, true)) (fun K => K r_p0 w) w fun t_5 w =>
  gate (some (t_4, true)) (fun K => pvv prog (binOp .leq 21 t_5 (.int .i32 1114111)) w K) w fun t_6 w =>
  pv prog (oPick t_4 t_6 (.bool false)) w fun t_7 w =>
  cd t_7 (
    K (.bool true) w) <|
  K (.bool false) w
theorem B93_eq (r_p0 : Value) (w : World) (K : Value → World → Prop) : denFn prog Tryz.f93 T93 [r_p0] w K = B93 r_p0 w K := by kernel_rfl
theorem c93 {r_p0 : Value} {w : World} {K : Value → World → Prop} (h : B93 r_p0 w K) : Calls prog 93 #[r_p0] w (Ret K) :=
  denFn_calls Tryz.func93 T93_ok (Eq.mpr (B93_eq r_p0 w K) h)

-- 17 holdfast/session.Until
def T17 : Ann := (.seq .none (.seq (.draw [.op 0 .pure, .op 3 .pure, .op 1 .load, .op 4 .load, .op 2 .eff, .op 5 .eff, .op 6 .pure, .op 7 .pure]) .none))
theorem T17_ok : chkFn prog Tryz.f17 T17 = true := by kernel_rfl
def B17 (s_p0 : Value) (w : World) (K : Value → World → Prop) : Prop :=
  efv prog (Instr.box 26 s_p0) w fun s_0 w =>
  dr w fun w =>
  pvv prog (Instr.fieldAt 26 s_0 3) w fun t_1 w =>
  pvv prog (Instr.fieldAt 26 s_0 2) w fun t_2 w =>
  bindS (vN (Instr.loadAt 3 t_1)) fun m_4 => ldv prog (Instr.loadAt 3 t_1) w fun t_3 w =>
  bindS (vN (Instr.loadAt 3 t_2)) fun m_6 => ldv prog (Instr.loadAt 3 t_2) w fun t_5 w =>
  Calls prog 31 #[t_3, (.int .i64 200)] w (Ret fun t_7 w => stay prog none m_6 t_5 w <| 
  Calls prog 31 #[t_5, (.int .i64 1000)] w (Ret fun t_8 w => stay prog none m_4 t_3 w <| 
  pv prog (oBi .min #[3, 3] 3 #[false, false] #[t_7, t_8]) w fun t_9 w =>
  K t_9 w))
theorem B17_eq (s_p0 : Value) (w : World) (K : Value → World → Prop) : denFn prog Tryz.f17 T17 [s_p0] w K = B17 s_p0 w K := by kernel_rfl
theorem c17 {s_p0 : Value} {w : World} {K : Value → World → Prop} (h : B17 s_p0 w K) : Calls prog 17 #[s_p0] w (Ret K) :=
  denFn_calls Tryz.func17 T17_ok (Eq.mpr (B17_eq s_p0 w K) h)

-- 65 slices.AppendSeq[[]int,int]
def T65 : Ann := (.seq .none (.seq (.seq .none (.block (.range .none (.block .none)))) (.seq .none .none)))
theorem T65_ok : chkFn prog Tryz.f65 T65 = true := by kernel_rfl
def B65 (s_p0 seq_p1 : Value) (w : World) (K : Value → World → Prop) : Prop :=
  efv prog (Instr.box 31 s_p0) w fun s_0 w =>
  rng prog 1 seq_p1 (fun σ w bg_2 ex_3 => pop σ fun t_1 σ => fin σ <|
    bg_2 w fun w =>
    ldv prog (Instr.loadAt 31 s_0) w fun t_4 w =>
    efv prog (Instr.buildSlice 31 1 #[(0, t_1)]) w fun t_5 w =>
    ef prog (oBi .append #[31, 31] 31 #[false, false] #[t_4, t_5]) w fun t_6 w =>
    efu prog (Instr.storeAt 31 s_0 t_6) w fun u_7 w =>
    ex_3 .normal w) w fun p_9 D_8 w =>
  jump (
    ldv prog (Instr.loadAt 31 s_0) w fun t_10 w =>
    und [D_8] w fun w => K t_10 w) (
    und [D_8] w fun w => K (.slice none 0 0) w) [] p_9
theorem B65_eq (s_p0 seq_p1 : Value) (w : World) (K : Value → World → Prop) : denFn prog Tryz.f65 T65 [s_p0, seq_p1] w K = B65 s_p0 seq_p1 w K := by kernel_rfl
theorem c65 {s_p0 seq_p1 : Value} {w : World} {K : Value → World → Prop} (h : B65 s_p0 seq_p1 w K) : Calls prog 65 #[s_p0, seq_p1] w (Ret K) :=
  denFn_calls Tryz.func65 T65_ok (Eq.mpr (B65_eq s_p0 seq_p1 w K) h)

-- 15 (*holdfast/session.Table).time
def T15 : Ann := (.seq .none (.seq (.seq .none (.seq (.seq .none .none) .none)) (.seq .none .none)))
theorem T15_ok : chkFn prog Tryz.f15 T15 = true := by kernel_rfl
def B15 (t_p0 now_p1 : Value) (w : World) (K : Value → World → Prop) : Prop :=
  pvv prog (oEq .eql 24 (.tmp 5) (.const (.pointer none)) t_p0 (.pointer none)) w fun t_0 w =>
  cd t_0 (
    K (.int .i64 1) w) <|
  pv prog (oNil t_p0) w fun t_1 w =>
  pvv prog (Instr.fieldAt 49 t_1 0) w fun t_2 w =>
  ldv prog (Instr.loadAt 46 t_2) w fun t_3 w =>
  Calls prog 30 #[t_3, now_p1] w (Ret fun t_4 w =>
  K t_4 w)
theorem B15_eq (t_p0 now_p1 : Value) (w : World) (K : Value → World → Prop) : denFn prog Tryz.f15 T15 [t_p0, now_p1] w K = B15 t_p0 now_p1 w K := by kernel_rfl
theorem c15 {t_p0 now_p1 : Value} {w : World} {K : Value → World → Prop} (h : B15 t_p0 now_p1 w K) : Calls prog 15 #[t_p0, now_p1] w (Ret K) :=
  denFn_calls Tryz.func15 T15_ok (Eq.mpr (B15_eq t_p0 now_p1 w K) h)

-- 28 maps.Clone[map[int]holdfast/api.Session,int,holdfast/api.Session]
def T28 : Ann := (.seq .none (.seq (.seq .none (.seq (.seq .none .none) .none)) (.seq .none .none)))
theorem T28_ok : chkFn prog Tryz.f28 T28 = true := by kernel_rfl
def B28 (m_p0 : Value) (w : World) (K : Value → World → Prop) : Prop :=
  pvv prog (oEq .eql 47 (.tmp 3) (.const (.map none)) m_p0 (.map none)) w fun t_0 w =>
  cd t_0 (
    K (.map none) w) <|
  pvv prog (Instr.makeInterface 47 m_p0) w fun t_1 w =>
  ef prog (oCall (.func (.func 38) #[] #[]) #[t_1]) w fun t_2 w =>
  efv prog (Instr.typeAssert t_2 20 47 false) w fun t_3 w =>
  K t_3 w
theorem B28_eq (m_p0 : Value) (w : World) (K : Value → World → Prop) : denFn prog Tryz.f28 T28 [m_p0] w K = B28 m_p0 w K := by kernel_rfl
theorem c28 {m_p0 : Value} {w : World} {K : Value → World → Prop} (h : B28 m_p0 w K) : Calls prog 28 #[m_p0] w (Ret K) :=
  denFn_calls Tryz.func28 T28_ok (Eq.mpr (B28_eq m_p0 w K) h)

-- 31 holdfast/session.later
def T31 : Ann := (.seq .none (.seq (.seq .none (.seq (.seq .none .none) .none)) (.seq .none .none)))
theorem T31_ok : chkFn prog Tryz.f31 T31 = true := by kernel_rfl
def B31 (t_p0 by_p1 : Value) (w : World) (K : Value → World → Prop) : Prop :=
  pvv prog (binOp .sub 3 (.int .i64 1099511627776) by_p1) w fun t_0 w =>
  pvv prog (binOp .gtr 3 t_p0 t_0) w fun t_1 w =>
  cd t_1 (
    K (.int .i64 1099511627776) w) <|
  pvv prog (binOp .add 3 t_p0 by_p1) w fun t_2 w =>
  K t_2 w
theorem B31_eq (t_p0 by_p1 : Value) (w : World) (K : Value → World → Prop) : denFn prog Tryz.f31 T31 [t_p0, by_p1] w K = B31 t_p0 by_p1 w K := by kernel_rfl
theorem c31 {t_p0 by_p1 : Value} {w : World} {K : Value → World → Prop} (h : B31 t_p0 by_p1 w K) : Calls prog 31 #[t_p0, by_p1] w (Ret K) :=
  denFn_calls Tryz.func31 T31_ok (Eq.mpr (B31_eq t_p0 by_p1 w K) h)

-- 25 slices.SortFunc[[]holdfast/api.Row,holdfast/api.Row]
def T25 : Ann := (.seq .none .none)
theorem T25_ok : chkFn prog Tryz.f25 T25 = true := by kernel_rfl
def B25 (x_p0 cmp_p1 : Value) (w : World) (K : Value → World → Prop) : Prop :=
  pv prog (oBi .len #[40] 3 #[false] #[x_p0]) w fun t_0 w =>
  pvv prog (convert 3 74 t_0) w fun t_1 w =>
  Calls prog 36 #[t_1] w (Ret fun t_2 w =>
  Calls prog 35 #[x_p0, (.int .i64 0), t_0, t_2, cmp_p1] w (Ret fun t_3 w =>
  K (.tuple #[]) w))
theorem B25_eq (x_p0 cmp_p1 : Value) (w : World) (K : Value → World → Prop) : denFn prog Tryz.f25 T25 [x_p0, cmp_p1] w K = B25 x_p0 cmp_p1 w K := by kernel_rfl
theorem c25 {x_p0 cmp_p1 : Value} {w : World} {K : Value → World → Prop} (h : B25 x_p0 cmp_p1 w K) : Calls prog 25 #[x_p0, cmp_p1] w (Ret K) :=
  denFn_calls Tryz.func25 T25_ok (Eq.mpr (B25_eq x_p0 cmp_p1 w K) h)

-- 24 holdfast/session.number
def T24 : Ann := (.seq .none (.seq .none (.seq .none .none)))
theorem T24_ok : chkFn prog Tryz.f24 T24 = true := by kernel_rfl
def B24 (n_p0 : Value) (w : World) (K : Value → World → Prop) : Prop :=
  Calls prog 34 #[n_p0] w (Ret fun t_0 w =>
  pvv prog (Instr.extract t_0 0) w fun t_1 w =>
  pvv prog (Instr.extract t_0 1) w fun t_2 w =>
  K t_1 w)
theorem B24_eq (n_p0 : Value) (w : World) (K : Value → World → Prop) : denFn prog Tryz.f24 T24 [n_p0] w K = B24 n_p0 w K := by kernel_rfl
theorem c24 {n_p0 : Value} {w : World} {K : Value → World → Prop} (h : B24 n_p0 w K) : Calls prog 24 #[n_p0] w (Ret K) :=
  denFn_calls Tryz.func24 T24_ok (Eq.mpr (B24_eq n_p0 w K) h)

-- 63 strings.ContainsRune
def T63 : Ann := (.seq .none (.seq .none .none))
theorem T63_ok : chkFn prog Tryz.f63 T63 = true := by kernel_rfl
def B63 (s_p0 r_p1 : Value) (w : World) (K : Value → World → Prop) : Prop :=
  Calls prog 75 #[s_p0, r_p1] w (Ret fun t_0 w =>
  pvv prog (binOp .geq 3 t_0 (.int .i64 0)) w fun t_1 w =>
  K t_1 w)
theorem B63_eq (s_p0 r_p1 : Value) (w : World) (K : Value → World → Prop) : denFn prog Tryz.f63 T63 [s_p0, r_p1] w K = B63 s_p0 r_p1 w K := by kernel_rfl
theorem c63 {s_p0 r_p1 : Value} {w : World} {K : Value → World → Prop} (h : B63 s_p0 r_p1 w K) : Calls prog 63 #[s_p0, r_p1] w (Ret K) :=
  denFn_calls Tryz.func63 T63_ok (Eq.mpr (B63_eq s_p0 r_p1 w K) h)

-- 32 slices.Sorted[int]
def T32 : Ann := (.seq .none (.seq .none (.seq .none (.seq .none .none))))
theorem T32_ok : chkFn prog Tryz.f32 T32 = true := by kernel_rfl
def B32 (seq_p0 : Value) (w : World) (K : Value → World → Prop) : Prop :=
  Calls prog 46 #[seq_p0] w (Ret fun t_0 w =>
  Calls prog 47 #[t_0] w (Ret fun t_1 w =>
  K t_0 w))
theorem B32_eq (seq_p0 : Value) (w : World) (K : Value → World → Prop) : denFn prog Tryz.f32 T32 [seq_p0] w K = B32 seq_p0 w K := by kernel_rfl
theorem c32 {seq_p0 : Value} {w : World} {K : Value → World → Prop} (h : B32 seq_p0 w K) : Calls prog 32 #[seq_p0] w (Ret K) :=
  denFn_calls Tryz.func32 T32_ok (Eq.mpr (B32_eq seq_p0 w K) h)

-- 22 holdfast/session.New
def T22 : Ann := (.seq .none (.seq .none .none))
theorem T22_ok : chkFn prog Tryz.f22 T22 = true := by kernel_rfl
def B22 (w : World) (K : Value → World → Prop) : Prop :=
  efv prog (Instr.makeMap 47 none) w fun t_0 w =>
  pvv prog (Instr.build 49 #[(1, (.int .i64 1)), (2, t_0)]) w fun t_1 w =>
  efv prog (Instr.box 49 t_1) w fun t_2 w =>
  K t_2 w
theorem B22_eq (w : World) (K : Value → World → Prop) : denFn prog Tryz.f22 T22 [] w K = B22  w K := by kernel_rfl
theorem c22 {w : World} {K : Value → World → Prop} (h : B22  w K) : Calls prog 22 #[] w (Ret K) :=
  denFn_calls Tryz.func22 T22_ok (Eq.mpr (B22_eq  w K) h)

-- 46 slices.Collect[int]
def T46 : Ann := (.seq .none (.seq .none .none))
theorem T46_ok : chkFn prog Tryz.f46 T46 = true := by kernel_rfl
def B46 (seq_p0 : Value) (w : World) (K : Value → World → Prop) : Prop :=
  Calls prog 65 #[(.slice none 0 0), seq_p0] w (Ret fun t_0 w =>
  K t_0 w)
theorem B46_eq (seq_p0 : Value) (w : World) (K : Value → World → Prop) : denFn prog Tryz.f46 T46 [seq_p0] w K = B46 seq_p0 w K := by kernel_rfl
theorem c46 {seq_p0 : Value} {w : World} {K : Value → World → Prop} (h : B46 seq_p0 w K) : Calls prog 46 #[seq_p0] w (Ret K) :=
  denFn_calls Tryz.func46 T46_ok (Eq.mpr (B46_eq seq_p0 w K) h)


end Go.Proofs.YticbbnjhiiimcaaGreatDoor
