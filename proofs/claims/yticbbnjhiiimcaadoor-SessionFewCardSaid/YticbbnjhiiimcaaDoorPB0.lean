import Derived.Test.YticbbnjhiiimcaaDoorPI
set_option linter.all false
set_option maxRecDepth 100000
namespace Go.Proofs.YticbbnjhiiimcaaDoor
open Go Hold
-- 76 slices.partitionOrdered[int]
def T76 : Ann := (.seq .none (.seq (.draw [.op 0 .pure, .op 1 .pure, .op 2 .pure, .op 3 .pure, .op 4 .pure, .op 5 .pure, .op 6 .pure, .op 8 .pure, .op 9 .pure, .op 10 .pure, .op 7 .load, .op 11 .load, .op 12 .pure, .op 13 .eff, .op 14 .pure, .op 15 .eff]) (.seq .none (.seq (.block (.loop 70367670436864 [10] (.seq (.seq (.draw [.op 0 .pure, .op 1 .pure, .op 2 .pure, .op 3 .pure, .op 4 .pure, .op 5 .pure, .op 6 .pure, .op 8 .pure, .op 9 .pure, .op 10 .pure, .op 7 .load, .op 11 .load, .op 12 .eff, .op 13 .pure]) (.seq .none .none)) (.block .none)))) (.seq (.block (.loop 9223301668110600192 [11] (.seq (.seq (.draw [.op 0 .pure, .op 1 .pure, .op 2 .pure, .op 3 .pure, .op 4 .pure, .op 5 .pure, .op 6 .pure, .op 8 .pure, .op 9 .pure, .op 10 .pure, .op 7 .load, .op 11 .load, .op 12 .eff, .op 13 .pure, .op 14 .pure]) (.seq .none .none)) (.block .none)))) (.seq (.seq .none (.seq (.seq (.draw [.op 0 .pure, .op 1 .pure, .op 2 .pure, .op 3 .pure, .op 4 .pure, .op 5 .pure, .op 6 .pure, .op 8 .pure, .op 9 .pure, .op 10 .pure, .op 7 .load, .op 11 .load, .op 12 .pure, .op 13 .eff, .op 14 .pure, .op 15 .eff]) (.seq .none .none)) .none)) (.seq (.draw [.op 0 .pure, .op 1 .pure, .op 2 .pure, .op 3 .pure, .op 4 .pure, .op 5 .pure, .op 6 .pure, .op 8 .pure, .op 9 .pure, .op 10 .pure, .op 7 .load, .op 11 .load, .op 12 .pure, .op 13 .eff, .op 14 .pure, .op 15 .eff]) (.seq .none (.seq .none (.seq (.block (.loop 11417981541647678414640987641481260342710373376 [10, 11] (.block (.seq (.block (.loop 41537741042978506913543222282159104 [10] (.seq (.seq (.draw [.op 0 .pure, .op 1 .pure, .op 2 .pure, .op 3 .pure, .op 4 .pure, .op 5 .pure, .op 6 .pure, .op 8 .pure, .op 9 .pure, .op 10 .pure, .op 7 .load, .op 11 .load, .op 12 .eff, .op 13 .pure]) (.seq .none .none)) (.block .none)))) (.seq (.block (.loop 5444476332360147136792965474937657624576 [11] (.seq (.seq (.draw [.op 0 .pure, .op 1 .pure, .op 2 .pure, .op 3 .pure, .op 4 .pure, .op 5 .pure, .op 6 .pure, .op 8 .pure, .op 9 .pure, .op 10 .pure, .op 7 .load, .op 11 .load, .op 12 .eff, .op 13 .pure, .op 14 .pure]) (.seq .none .none)) (.block .none)))) (.seq (.seq .none (.seq .none .none)) (.seq (.draw [.op 0 .pure, .op 1 .pure, .op 2 .pure, .op 3 .pure, .op 4 .pure, .op 5 .pure, .op 6 .pure, .op 8 .pure, .op 9 .pure, .op 10 .pure, .op 7 .load, .op 11 .load, .op 12 .pure, .op 13 .eff, .op 14 .pure, .op 15 .eff]) (.seq .none .none)))))))) (.seq (.draw [.op 0 .pure, .op 1 .pure, .op 2 .pure, .op 3 .pure, .op 4 .pure, .op 5 .pure, .op 6 .pure, .op 8 .pure, .op 9 .pure, .op 10 .pure, .op 7 .load, .op 11 .load, .op 12 .pure, .op 13 .eff, .op 14 .pure, .op 15 .eff]) (.seq .none .none))))))))))))
theorem T76_ok : chkFn prog Tryd.f76 T76 = true := by kernel_rfl
def B76 (data_p0 a_p1 b_p2 pivot_p3 : Value) (w : World) (K : Value → World → Prop) : Prop :=
  dr w fun w =>
  pvv prog (Instr.indexAt 65 data_p0 pivot_p3) w fun t_0 w =>
  pvv prog (Instr.indexAt 65 data_p0 a_p1) w fun t_1 w =>
  bindS (vN (Instr.loadAt 3 t_0)) fun m_3 => ldv prog (Instr.loadAt 3 t_0) w fun t_2 w =>
  bindS (vN (Instr.loadAt 3 t_1)) fun m_5 => ldv prog (Instr.loadAt 3 t_1) w fun t_4 w =>
  pvv prog (Instr.indexAt 65 data_p0 a_p1) w fun t_6 w =>
  efu prog (Instr.storeAt 3 t_6 t_2) w fun u_7 w =>
  pvv prog (Instr.indexAt 65 data_p0 pivot_p3) w fun t_8 w =>
  efu prog (Instr.storeAt 3 t_8 t_4) w fun u_9 w =>
  pvv prog (binOp .add 3 a_p1 (.int .i64 1)) w fun t_10 w =>
  pvv prog (binOp .sub 3 b_p2 (.int .i64 1)) w fun t_11 w =>
  lp (fun σ w again_13 => pop σ fun i_12 σ => fin σ <|
    dr w fun w =>
    pvv prog (binOp .leq 3 i_12 t_11) w fun t_14 w =>
    gate (some (t_14, true)) (fun K => K data_p0 w) w fun t_15 w =>
    gate (some (t_14, true)) (fun K => K i_12 w) w fun t_16 w =>
    gate (some (t_14, true)) (fun K => pvv prog (Instr.indexAt 65 t_15 t_16) w K) w fun t_17 w =>
    gate (some (t_14, true)) (fun K => K data_p0 w) w fun t_18 w =>
    gate (some (t_14, true)) (fun K => K a_p1 w) w fun t_19 w =>
    gate (some (t_14, true)) (fun K => pvv prog (Instr.indexAt 65 t_18 t_19) w K) w fun t_20 w =>
    bindS (vN (Instr.loadAt 3 t_17)) fun m_22 => gate (some (t_14, true)) (fun K => ldv prog (Instr.loadAt 3 t_17) w K) w fun t_21 w =>
    bindS (vN (Instr.loadAt 3 t_20)) fun m_24 => gate (some (t_14, true)) (fun K => ldv prog (Instr.loadAt 3 t_20) w K) w fun t_23 w =>
    gate (some (t_14, true)) (fun K => Calls prog 74 #[t_21, t_23] w (Ret fun s_138 w => K s_138 w)) w fun t_25 w =>
    pv prog (oPick t_14 t_25 (.bool false)) w fun t_26 w =>
    cd t_26 (
      pvv prog (binOp .add 3 i_12 (.int .i64 1)) w fun t_27 w =>
      again_13 [t_27] w) <|
    lp (fun σ w again_29 => pop σ fun j_28 σ => fin σ <|
      dr w fun w =>
      pvv prog (binOp .leq 3 i_12 j_28) w fun t_30 w =>
      gate (some (t_30, true)) (fun K => K data_p0 w) w fun t_31 w =>
      gate (some (t_30, true)) (fun K => K j_28 w) w fun t_32 w =>
      gate (some (t_30, true)) (fun K => pvv prog (Instr.indexAt 65 t_31 t_32) w K) w fun t_33 w =>
      gate (some (t_30, true)) (fun K => K data_p0 w) w fun t_34 w =>
      gate (some (t_30, true)) (fun K => K a_p1 w) w fun t_35 w =>
      gate (some (t_30, true)) (fun K => pvv prog (Instr.indexAt 65 t_34 t_35) w K) w fun t_36 w =>
      bindS (vN (Instr.loadAt 3 t_33)) fun m_38 => gate (some (t_30, true)) (fun K => ldv prog (Instr.loadAt 3 t_33) w K) w fun t_37 w =>
      bindS (vN (Instr.loadAt 3 t_36)) fun m_40 => gate (some (t_30, true)) (fun K => ldv prog (Instr.loadAt 3 t_36) w K) w fun t_39 w =>
      gate (some (t_30, true)) (fun K => Calls prog 74 #[t_37, t_39] w (Ret fun s_137 w => K s_137 w)) w fun t_41 w =>
      gate (some (t_30, true)) (fun K => pvv prog (Op.unary .not t_41) w K) w fun t_42 w =>
      pv prog (oPick t_30 t_42 (.bool false)) w fun t_43 w =>
      cd t_43 (
        pvv prog (binOp .sub 3 j_28 (.int .i64 1)) w fun t_44 w =>
        again_29 [t_44] w) <|
      pvv prog (binOp .gtr 3 i_12 j_28) w fun t_45 w =>
      cd t_45 (
        dr w fun w =>
        pvv prog (Instr.indexAt 65 data_p0 a_p1) w fun t_46 w =>
        pvv prog (Instr.indexAt 65 data_p0 j_28) w fun t_47 w =>
        bindS (vN (Instr.loadAt 3 t_46)) fun m_49 => ldv prog (Instr.loadAt 3 t_46) w fun t_48 w =>
        bindS (vN (Instr.loadAt 3 t_47)) fun m_51 => ldv prog (Instr.loadAt 3 t_47) w fun t_50 w =>
        pvv prog (Instr.indexAt 65 data_p0 j_28) w fun t_52 w =>
        efu prog (Instr.storeAt 3 t_52 t_48) w fun u_53 w =>
        pvv prog (Instr.indexAt 65 data_p0 a_p1) w fun t_54 w =>
        efu prog (Instr.storeAt 3 t_54 t_50) w fun u_55 w =>
        K (.tuple #[j_28, (.bool true)]) w) <|
      dr w fun w =>
      pvv prog (Instr.indexAt 65 data_p0 j_28) w fun t_58 w =>
      pvv prog (Instr.indexAt 65 data_p0 i_12) w fun t_59 w =>
      bindS (vN (Instr.loadAt 3 t_58)) fun m_61 => ldv prog (Instr.loadAt 3 t_58) w fun t_60 w =>
      bindS (vN (Instr.loadAt 3 t_59)) fun m_63 => ldv prog (Instr.loadAt 3 t_59) w fun t_62 w =>
      pvv prog (Instr.indexAt 65 data_p0 i_12) w fun t_64 w =>
      efu prog (Instr.storeAt 3 t_64 t_60) w fun u_65 w =>
      pvv prog (Instr.indexAt 65 data_p0 j_28) w fun t_66 w =>
      efu prog (Instr.storeAt 3 t_66 t_62) w fun u_67 w =>
      pvv prog (binOp .add 3 i_12 (.int .i64 1)) w fun t_68 w =>
      pvv prog (binOp .sub 3 j_28 (.int .i64 1)) w fun t_69 w =>
      lp (fun σ w again_72 => pop σ fun i_70 σ => pop σ fun j_71 σ => fin σ <|
        lp (fun σ w again_74 => pop σ fun i_73 σ => fin σ <|
          dr w fun w =>
          pvv prog (binOp .leq 3 i_73 j_71) w fun t_75 w =>
          gate (some (t_75, true)) (fun K => K data_p0 w) w fun t_76 w =>
          gate (some (t_75, true)) (fun K => K i_73 w) w fun t_77 w =>
          gate (some (t_75, true)) (fun K => pvv prog (Instr.indexAt 65 t_76 t_77) w K) w fun t_78 w =>
          gate (some (t_75, true)) (fun K => K data_p0 w) w fun t_79 w =>
          gate (some (t_75, true)) (fun K => K a_p1 w) w fun t_80 w =>
          gate (some (t_75, true)) (fun K => pvv prog (Instr.indexAt 65 t_79 t_80) w K) w fun t_81 w =>
          bindS (vN (Instr.loadAt 3 t_78)) fun m_83 => gate (some (t_75, true)) (fun K => ldv prog (Instr.loadAt 3 t_78) w K) w fun t_82 w =>
          bindS (vN (Instr.loadAt 3 t_81)) fun m_85 => gate (some (t_75, true)) (fun K => ldv prog (Instr.loadAt 3 t_81) w K) w fun t_84 w =>
          gate (some (t_75, true)) (fun K => Calls prog 74 #[t_82, t_84] w (Ret fun s_134 w => K s_134 w)) w fun t_86 w =>
          pv prog (oPick t_75 t_86 (.bool false)) w fun t_87 w =>
          cd t_87 (
            pvv prog (binOp .add 3 i_73 (.int .i64 1)) w fun t_88 w =>
            again_74 [t_88] w) <|
          lp (fun σ w again_90 => pop σ fun j_89 σ => fin σ <|
            dr w fun w =>
            pvv prog (binOp .leq 3 i_73 j_89) w fun t_91 w =>
            gate (some (t_91, true)) (fun K => K data_p0 w) w fun t_92 w =>
            gate (some (t_91, true)) (fun K => K j_89 w) w fun t_93 w =>
            gate (some (t_91, true)) (fun K => pvv prog (Instr.indexAt 65 t_92 t_93) w K) w fun t_94 w =>
            gate (some (t_91, true)) (fun K => K data_p0 w) w fun t_95 w =>
            gate (some (t_91, true)) (fun K => K a_p1 w) w fun t_96 w =>
            gate (some (t_91, true)) (fun K => pvv prog (Instr.indexAt 65 t_95 t_96) w K) w fun t_97 w =>
            bindS (vN (Instr.loadAt 3 t_94)) fun m_99 => gate (some (t_91, true)) (fun K => ldv prog (Instr.loadAt 3 t_94) w K) w fun t_98 w =>
            bindS (vN (Instr.loadAt 3 t_97)) fun m_101 => gate (some (t_91, true)) (fun K => ldv prog (Instr.loadAt 3 t_97) w K) w fun t_100 w =>
            gate (some (t_91, true)) (fun K => Calls prog 74 #[t_98, t_100] w (Ret fun s_133 w => K s_133 w)) w fun t_102 w =>
            gate (some (t_91, true)) (fun K => pvv prog (Op.unary .not t_102) w K) w fun t_103 w =>
            pv prog (oPick t_91 t_103 (.bool false)) w fun t_104 w =>
            cd t_104 (
              pvv prog (binOp .sub 3 j_89 (.int .i64 1)) w fun t_105 w =>
              again_90 [t_105] w) <|
            pvv prog (binOp .gtr 3 i_73 j_89) w fun t_106 w =>
            cd t_106 (
              dr w fun w =>
              pvv prog (Instr.indexAt 65 data_p0 a_p1) w fun t_107 w =>
              pvv prog (Instr.indexAt 65 data_p0 j_89) w fun t_108 w =>
              bindS (vN (Instr.loadAt 3 t_107)) fun m_110 => ldv prog (Instr.loadAt 3 t_107) w fun t_109 w =>
              bindS (vN (Instr.loadAt 3 t_108)) fun m_112 => ldv prog (Instr.loadAt 3 t_108) w fun t_111 w =>
              pvv prog (Instr.indexAt 65 data_p0 j_89) w fun t_113 w =>
              efu prog (Instr.storeAt 3 t_113 t_109) w fun u_114 w =>
              pvv prog (Instr.indexAt 65 data_p0 a_p1) w fun t_115 w =>
              efu prog (Instr.storeAt 3 t_115 t_111) w fun u_116 w =>
              K (.tuple #[j_89, (.bool false)]) w) <|
            dr w fun w =>
            pvv prog (Instr.indexAt 65 data_p0 j_89) w fun t_119 w =>
            pvv prog (Instr.indexAt 65 data_p0 i_73) w fun t_120 w =>
            bindS (vN (Instr.loadAt 3 t_119)) fun m_122 => ldv prog (Instr.loadAt 3 t_119) w fun t_121 w =>
            bindS (vN (Instr.loadAt 3 t_120)) fun m_124 => ldv prog (Instr.loadAt 3 t_120) w fun t_123 w =>
            pvv prog (Instr.indexAt 65 data_p0 i_73) w fun t_125 w =>
            efu prog (Instr.storeAt 3 t_125 t_121) w fun u_126 w =>
            pvv prog (Instr.indexAt 65 data_p0 j_89) w fun t_127 w =>
            efu prog (Instr.storeAt 3 t_127 t_123) w fun u_128 w =>
            pvv prog (binOp .add 3 i_73 (.int .i64 1)) w fun t_129 w =>
            pvv prog (binOp .sub 3 j_89 (.int .i64 1)) w fun t_130 w =>
            again_72 [t_129, t_130] w) [j_71] w) [i_70] w) [t_68, t_69] w) [t_11] w) [t_10] w
theorem B76_eq (data_p0 a_p1 b_p2 pivot_p3 : Value) (w : World) (K : Value → World → Prop) : denFn prog Tryd.f76 T76 [data_p0, a_p1, b_p2, pivot_p3] w K = B76 data_p0 a_p1 b_p2 pivot_p3 w K := by kernel_rfl
theorem c76 {data_p0 a_p1 b_p2 pivot_p3 : Value} {w : World} {K : Value → World → Prop} (h : B76 data_p0 a_p1 b_p2 pivot_p3 w K) : Calls prog 76 #[data_p0, a_p1, b_p2, pivot_p3] w (Ret K) :=
  denFn_calls Tryd.func76 T76_ok (Eq.mpr (B76_eq data_p0 a_p1 b_p2 pivot_p3 w K) h)

-- 6 holdfast/holdfastlaw11.SessionOver
def T6 : Ann := (.seq .none (.seq .none (.seq (.seq .none (.seq (.seq .none .none) .none)) (.seq (.seq .none (.block (.loop 137437905408 [9] (.seq (.seq .none (.seq .none .none)) (.seq (.block .none) .none))))) (.seq (.seq .none (.seq (.seq .none .none) .none)) (.seq .none (.seq (.seq .none (.block (.loop 162259276829213363389378987097152 [10, 11] (.seq (.seq .none (.seq .none .none)) (.seq (.block (.seq .none (.meet 302231166673281141965824 [10] (.seq .none (.seq .none .none)) (.seq .none (.seq .none (.seq .none (.seq (.seq .none .none) .none))))))) .none))))) (.seq .none .none))))))))
theorem T6_ok : chkFn prog Tryd.f6 T6 = true := by kernel_rfl
def B6 (l_p0 id_p1 more_p2 : Value) (w : World) (K : Value → World → Prop) : Prop :=
  Calls prog 11 #[] w (Ret fun t_0 w =>
  Calls prog 16 #[] w (Ret fun t_1 w =>
  Calls prog 8 #[] w (Ret fun t_2 w =>
  pvv prog (Op.unary .not t_2) w fun t_3 w =>
  cd t_3 (
    K (.bool false) w) <|
  lp (fun σ w again_5 => pop σ fun i_4 σ => fin σ <|
    pv prog (oBi .len #[44] 3 #[false] #[l_p0]) w fun t_6 w =>
    pvv prog (binOp .lss 3 i_4 t_6) w fun t_7 w =>
    gate (some (t_7, true)) (fun K => K i_4 w) w fun t_8 w =>
    gate (some (t_7, true)) (fun K => pvv prog (binOp .lss 3 t_8 (.int .i64 40)) w K) w fun t_9 w =>
    pv prog (oPick t_7 t_9 (.bool false)) w fun t_10 w =>
    cd t_10 (
      pvv prog (Instr.indexAt 44 l_p0 i_4) w fun t_11 w =>
      ldv prog (Instr.loadAt 49 t_11) w fun t_12 w =>
      Calls prog 17 #[t_0, t_1, t_12] w (Ret fun t_13 w =>
      pvv prog (binOp .add 3 i_4 (.int .i64 1)) w fun t_14 w =>
      again_5 [t_14] w)) <|
    Calls prog 18 #[t_0, id_p1] w (Ret fun t_15 w =>
    pvv prog (oEq .eql 34 (.tmp 39) (.const (.int .i64 4)) t_15 (.int .i64 4)) w fun t_16 w =>
    cd t_16 (
      K (.bool true) w) <|
    lp (fun σ w again_19 => pop σ fun now_17 σ => pop σ fun i_18 σ => fin σ <|
      pv prog (oBi .len #[44] 3 #[false] #[more_p2]) w fun t_20 w =>
      pvv prog (binOp .lss 3 i_18 t_20) w fun t_21 w =>
      gate (some (t_21, true)) (fun K => K i_18 w) w fun t_22 w =>
      gate (some (t_21, true)) (fun K => pvv prog (binOp .lss 3 t_22 (.int .i64 40)) w K) w fun t_23 w =>
      pv prog (oPick t_21 t_23 (.bool false)) w fun t_24 w =>
      cd t_24 (
        pvv prog (Instr.indexAt 44 more_p2 i_18) w fun t_25 w =>
        ldv prog (Instr.loadAt 49 t_25) w fun t_26 w =>
        Calls prog 17 #[t_0, t_1, t_26] w (Ret fun t_27 w =>
        jn (fun σ w => pop σ fun now_28 σ => fin σ <|
          Calls prog 15 #[t_0, id_p1, (.int .i64 1099511627776)] w (Ret fun t_29 w =>
          pvv prog (Instr.extract t_29 0) w fun t_30 w =>
          pvv prog (Instr.extract t_29 1) w fun t_31 w =>
          efv prog (Instr.alloc 25 true (.tuple #[])) w fun t_32 w =>
          efu prog (Instr.storeAt 25 t_32 t_30) w fun u_33 w =>
          pvv prog (Instr.indexAt 44 more_p2 i_18) w fun t_34 w =>
          pvv prog (Instr.fieldAt 49 t_34 3) w fun t_35 w =>
          ldv prog (Instr.loadAt 3 t_35) w fun t_36 w =>
          Calls prog 14 #[t_0, id_p1, t_36] w (Ret fun t_37 w =>
          pvv prog (Instr.extract t_37 0) w fun t_38 w =>
          pvv prog (Instr.extract t_37 1) w fun t_39 w =>
          efv prog (Instr.alloc 25 true (.tuple #[])) w fun t_40 w =>
          efu prog (Instr.storeAt 25 t_40 t_38) w fun u_41 w =>
          pvv prog (oEq .neq 34 (.tmp 95) (.const (.int .i64 12)) t_31 (.int .i64 12)) w fun t_42 w =>
          gate (some (t_42, false)) (fun K => K t_39 w) w fun t_43 w =>
          gate (some (t_42, false)) (fun K => pvv prog (oEq .eql 34 (.tmp 98) (.const (.int .i64 0)) t_43 (.int .i64 0)) w K) w fun t_44 w =>
          pv prog (oPick t_42 (.bool true) t_44) w fun t_45 w =>
          gate (some (t_45, false)) (fun K => K t_0 w) w fun t_46 w =>
          gate (some (t_45, false)) (fun K => K id_p1 w) w fun t_47 w =>
          gate (some (t_45, false)) (fun K => Calls prog 18 #[t_46, t_47] w (Ret K)) w fun t_48 w =>
          gate (some (t_45, false)) (fun K => pvv prog (oEq .neq 34 (.tmp 104) (.const (.int .i64 12)) t_48 (.int .i64 12)) w K) w fun t_49 w =>
          pv prog (oPick t_45 (.bool true) t_49) w fun t_50 w =>
          cd t_50 (
            K (.bool false) w) <|
          pvv prog (binOp .add 3 i_18 (.int .i64 1)) w fun t_51 w =>
          again_19 [now_28, t_51] w))) fun k_52 =>
        pvv prog (Instr.indexAt 44 more_p2 i_18) w fun t_53 w =>
        pvv prog (Instr.fieldAt 49 t_53 3) w fun t_54 w =>
        ldv prog (Instr.loadAt 3 t_54) w fun t_55 w =>
        pvv prog (binOp .gtr 3 t_55 now_17) w fun t_56 w =>
        gate (some (t_56, true)) (fun K => K more_p2 w) w fun t_57 w =>
        gate (some (t_56, true)) (fun K => K i_18 w) w fun t_58 w =>
        gate (some (t_56, true)) (fun K => pvv prog (Instr.indexAt 44 t_57 t_58) w K) w fun t_59 w =>
        gate (some (t_56, true)) (fun K => pvv prog (Instr.fieldAt 49 t_59 3) w K) w fun t_60 w =>
        gate (some (t_56, true)) (fun K => ldv prog (Instr.loadAt 3 t_60) w K) w fun t_61 w =>
        gate (some (t_56, true)) (fun K => pvv prog (binOp .leq 3 t_61 (.int .i64 1099511627776)) w K) w fun t_62 w =>
        pv prog (oPick t_56 t_62 (.bool false)) w fun t_63 w =>
        cd t_63 (
          pvv prog (Instr.indexAt 44 more_p2 i_18) w fun t_64 w =>
          pvv prog (Instr.fieldAt 49 t_64 3) w fun t_65 w =>
          ldv prog (Instr.loadAt 3 t_65) w fun t_66 w =>
          k_52 [t_66] w) <|
        k_52 [now_17] w)) <|
      K (.bool true) w) [(.int .i64 0), (.int .i64 0)] w)) [(.int .i64 0)] w)))
theorem B6_eq (l_p0 id_p1 more_p2 : Value) (w : World) (K : Value → World → Prop) : denFn prog Tryd.f6 T6 [l_p0, id_p1, more_p2] w K = B6 l_p0 id_p1 more_p2 w K := by kernel_rfl
theorem c6 {l_p0 id_p1 more_p2 : Value} {w : World} {K : Value → World → Prop} (h : B6 l_p0 id_p1 more_p2 w K) : Calls prog 6 #[l_p0, id_p1, more_p2] w (Ret K) :=
  denFn_calls Tryd.func6 T6_ok (Eq.mpr (B6_eq l_p0 id_p1 more_p2 w K) h)

-- 34 (*holdfast/holdfastref11.Table).Live
def T34 : Ann := (.seq .none (.seq (.seq .none (.seq .none (.seq (.seq .none .none) .none))) (.seq .none (.seq (.seq .none (.block (.loop 288230376151582208 [9, 10] (.seq (.seq .none (.seq .none .none)) (.meet 288230376084603392 [9] (.block (.seq (.draw [.op 0 .pure, .op 1 .pure, .op 2 .pure, .op 4 .pure, .op 3 .load, .op 5 .pure, .op 6 .pure, .op 7 .load, .op 8 .load, .op 9 .pure, .op 10 .pure, .op 11 .pure, .op 12 .pure, .op 13 .pure, .op 15 .pure, .op 18 .pure, .op 14 .load, .op 16 .pure, .op 17 .load, .op 19 .eff, .op 20 .pure, .op 21 .pure]) (.seq .none .none))) .none))))) (.seq .none .none)))))
theorem T34_ok : chkFn prog Tryd.f34 T34 = true := by kernel_rfl
def B34 (t_p0 o_p1 now_p2 : Value) (w : World) (K : Value → World → Prop) : Prop :=
  efv prog (Instr.box 23 o_p1) w fun o_0 w =>
  Calls prog 41 #[t_p0, now_p2] w (Ret fun t_1 w =>
  pvv prog (oEq .neq 34 (.tmp 14) (.const (.int .i64 0)) t_1 (.int .i64 0)) w fun t_2 w =>
  cd t_2 (
    K (.tuple #[(.slice none 0 0), t_1]) w) <|
  lp (fun σ w again_5 => pop σ fun out_3 σ => pop σ fun i_4 σ => fin σ <|
    pv prog (oNil t_p0) w fun t_6 w =>
    pvv prog (Instr.fieldAt 63 t_6 2) w fun t_7 w =>
    ldv prog (Instr.loadAt 37 t_7) w fun t_8 w =>
    pv prog (oBi .len #[37] 3 #[false] #[t_8]) w fun t_9 w =>
    pvv prog (binOp .lss 3 i_4 t_9) w fun t_10 w =>
    cd t_10 (
      jn (fun σ w => pop σ fun out_11 σ => fin σ <|
        pvv prog (binOp .add 3 i_4 (.int .i64 1)) w fun t_12 w =>
        again_5 [out_11, t_12] w) fun k_13 =>
      dr w fun w =>
      pv prog (oNil t_p0) w fun t_14 w =>
      pvv prog (Instr.fieldAt 63 t_14 2) w fun t_15 w =>
      bindS (vN (Instr.loadAt 37 t_15)) fun m_17 => ldv prog (Instr.loadAt 37 t_15) w fun t_16 w =>
      pvv prog (Instr.indexAt 37 t_16 i_4) w fun t_18 w =>
      pvv prog (Instr.fieldAt 25 t_18 1) w fun t_19 w =>
      bindS (vN (Instr.loadAt 23 t_19)) fun m_21 => ldv prog (Instr.loadAt 23 t_19) w fun t_20 w =>
      bindS (vN (Instr.loadAt 23 o_0)) fun m_23 => ldv prog (Instr.loadAt 23 o_0) w fun t_22 w =>
      pvv prog (oEq .eql 23 (.tmp 33) (.tmp 34) t_20 t_22) w fun t_24 w =>
      gate (some (t_24, true)) (fun K => K t_p0 w) w fun t_25 w =>
      gate (some (t_24, true)) (fun K => pv prog (oNil t_25) w K) w fun t_26 w =>
      gate (some (t_24, true)) (fun K => pvv prog (Instr.fieldAt 63 t_26 2) w K) w fun t_27 w =>
      gate (some (t_24, true)) (fun K => K i_4 w) w fun t_28 w =>
      gate (some (t_24, true)) (fun K => K now_p2 w) w fun t_29 w =>
      bindS (vN (Instr.loadAt 37 t_27)) fun m_31 => gate (some (t_24, true)) (fun K => ldv prog (Instr.loadAt 37 t_27) w K) w fun t_30 w =>
      gate (some (t_24, true)) (fun K => pvv prog (Instr.indexAt 37 t_30 t_28) w K) w fun t_32 w =>
      bindS (vN (Instr.loadAt 25 t_32)) fun m_34 => gate (some (t_24, true)) (fun K => ldv prog (Instr.loadAt 25 t_32) w K) w fun t_33 w =>
      gate (some (t_24, true)) (fun K => Calls prog 42 #[t_33, t_29] w (Ret fun s_45 w => stay prog (some (t_24, true)) m_31 t_30 w <| stay prog none m_23 t_22 w <| stay prog none m_21 t_20 w <| stay prog none m_17 t_16 w <| K s_45 w)) w fun t_35 w =>
      gate (some (t_24, true)) (fun K => pvv prog (Op.unary .not t_35) w K) w fun t_36 w =>
      pv prog (oPick t_24 t_36 (.bool false)) w fun t_37 w =>
      cd t_37 (
        pv prog (oNil t_p0) w fun t_38 w =>
        pvv prog (Instr.fieldAt 63 t_38 2) w fun t_39 w =>
        ldv prog (Instr.loadAt 37 t_39) w fun t_40 w =>
        pvv prog (Instr.indexAt 37 t_40 i_4) w fun t_41 w =>
        ldv prog (Instr.loadAt 25 t_41) w fun t_42 w =>
        efv prog (Instr.buildSlice 37 1 #[(0, t_42)]) w fun t_43 w =>
        ef prog (oBi .append #[37, 37] 37 #[false, false] #[out_3, t_43]) w fun t_44 w =>
        k_13 [t_44] w) <|
      k_13 [out_3] w) <|
    K (.tuple #[out_3, (.int .i64 0)]) w) [(.slice none 0 0), (.int .i64 0)] w)
theorem B34_eq (t_p0 o_p1 now_p2 : Value) (w : World) (K : Value → World → Prop) : denFn prog Tryd.f34 T34 [t_p0, o_p1, now_p2] w K = B34 t_p0 o_p1 now_p2 w K := by kernel_rfl
theorem c34 {t_p0 o_p1 now_p2 : Value} {w : World} {K : Value → World → Prop} (h : B34 t_p0 o_p1 now_p2 w K) : Calls prog 34 #[t_p0, o_p1, now_p2] w (Ret K) :=
  denFn_calls Tryd.func34 T34_ok (Eq.mpr (B34_eq t_p0 o_p1 now_p2 w K) h)

-- 61 unicode/utf8.DecodeLastRuneInString
def T61 : Ann := (.seq .none (.seq .none (.seq (.seq .none (.seq (.seq .none .none) .none)) (.seq .none (.seq .none (.seq (.seq .none (.seq (.seq .none .none) .none)) (.seq .none (.meet 17171480608 [5] (.seq .none (.block (.loop 17146314784 [5] (.seq (.seq .none (.seq .none .none)) (.seq (.block (.seq .none (.seq .none .none))) .none))))) (.meet 51539607584 [5] (.seq .none (.seq .none .none)) (.seq .none (.seq (.seq .none (.seq (.seq .none .none) .none)) (.seq .none .none))))))))))))
theorem T61_ok : chkFn prog Tryd.f61 T61 = true := by kernel_rfl
def B61 (s_p0 : Value) (w : World) (K : Value → World → Prop) : Prop :=
  pv prog (oBi .len #[9] 3 #[false] #[s_p0]) w fun t_0 w =>
  pvv prog (oEq .eql 3 (.tmp 9) (.const (.int .i64 0)) t_0 (.int .i64 0)) w fun t_1 w =>
  cd t_1 (
    K (.tuple #[(.int .i32 65533), (.int .i64 0)]) w) <|
  pvv prog (binOp .sub 3 t_0 (.int .i64 1)) w fun t_2 w =>
  pvv prog (Instr.index 9 s_p0 t_2) w fun t_3 w =>
  pvv prog (convert 5 21 t_3) w fun t_4 w =>
  pvv prog (binOp .lss 21 t_4 (.int .i32 128)) w fun t_5 w =>
  cd t_5 (
    K (.tuple #[t_4, (.int .i64 1)]) w) <|
  pvv prog (binOp .sub 3 t_0 (.int .i64 4)) w fun t_6 w =>
  pv prog (oBi .max #[3, 3] 3 #[false, true] #[t_6, (.int .i64 0)]) w fun t_7 w =>
  jn (fun σ w => pop σ fun start_8 σ => fin σ <|
    jn (fun σ w => pop σ fun start_9 σ => fin σ <|
      pvv prog (Instr.sliceAt 9 s_p0 (some start_9) (some t_0) none) w fun t_10 w =>
      Calls prog 59 #[t_10] w (Ret fun t_11 w =>
      pvv prog (Instr.extract t_11 0) w fun t_12 w =>
      pvv prog (Instr.extract t_11 1) w fun t_13 w =>
      pvv prog (binOp .add 3 start_9 t_13) w fun t_14 w =>
      pvv prog (oEq .neq 3 (.tmp 46) (.tmp 47) t_14 t_0) w fun t_15 w =>
      cd t_15 (
        K (.tuple #[(.int .i32 65533), (.int .i64 1)]) w) <|
      K (.tuple #[t_12, t_13]) w)) fun k_16 =>
    pvv prog (binOp .lss 3 start_8 (.int .i64 0)) w fun t_17 w =>
    cd t_17 (
      k_16 [(.int .i64 0)] w) <|
    k_16 [start_8] w) fun k_18 =>
  pvv prog (binOp .sub 3 t_2 (.int .i64 1)) w fun t_19 w =>
  lp (fun σ w again_21 => pop σ fun start_20 σ => fin σ <|
    pvv prog (binOp .geq 3 start_20 t_7) w fun t_22 w =>
    cd t_22 (
      pvv prog (Instr.index 9 s_p0 start_20) w fun t_23 w =>
      Calls prog 67 #[t_23] w (Ret fun t_24 w =>
      cd t_24 (
        k_18 [start_20] w) <|
      pvv prog (binOp .sub 3 start_20 (.int .i64 1)) w fun t_25 w =>
      again_21 [t_25] w)) <|
    k_18 [start_20] w) [t_19] w
theorem B61_eq (s_p0 : Value) (w : World) (K : Value → World → Prop) : denFn prog Tryd.f61 T61 [s_p0] w K = B61 s_p0 w K := by kernel_rfl
theorem c61 {s_p0 : Value} {w : World} {K : Value → World → Prop} (h : B61 s_p0 w K) : Calls prog 61 #[s_p0] w (Ret K) :=
  denFn_calls Tryd.func61 T61_ok (Eq.mpr (B61_eq s_p0 w K) h)

-- 78 math/bits.Len64
def T78 : Ann := (.seq .none (.meet 125 [0, 2] (.seq .none (.seq (.seq .none .none) .none)) (.meet 8069 [0, 2] (.seq .none (.seq (.seq .none .none) .none)) (.meet 516101 [0, 2] (.seq .none (.seq (.seq .none .none) .none)) (.seq .none .none)))))
theorem T78_ok : chkFn prog Tryd.f78 T78 = true := by kernel_rfl
def B78 (x_p0 : Value) (w : World) (K : Value → World → Prop) : Prop :=
  jn (fun σ w => pop σ fun x_0 σ => pop σ fun n_1 σ => fin σ <|
    jn (fun σ w => pop σ fun x_2 σ => pop σ fun n_3 σ => fin σ <|
      jn (fun σ w => pop σ fun x_4 σ => pop σ fun n_5 σ => fin σ <|
        pvv prog (convert 111 5 x_4) w fun t_6 w =>
        pvv prog (Instr.index 9 (.string ⟨#[0, 1, 2, 2, 3, 3, 3, 3, 4, 4, 4, 4, 4, 4, 4, 4, 5, 5, 5, 5, 5, 5, 5, 5, 5, 5, 5, 5, 5, 5, 5, 5, 6, 6, 6, 6, 6, 6, 6, 6, 6, 6, 6, 6, 6, 6, 6, 6, 6, 6, 6, 6, 6, 6, 6, 6, 6, 6, 6, 6, 6, 6, 6, 6, 7, 7, 7, 7, 7, 7, 7, 7, 7, 7, 7, 7, 7, 7, 7, 7, 7, 7, 7, 7, 7, 7, 7, 7, 7, 7, 7, 7, 7, 7, 7, 7, 7, 7, 7, 7, 7, 7, 7, 7, 7, 7, 7, 7, 7, 7, 7, 7, 7, 7, 7, 7, 7, 7, 7, 7, 7, 7, 7, 7, 7, 7, 7, 7, 8, 8, 8, 8, 8, 8, 8, 8, 8, 8, 8, 8, 8, 8, 8, 8, 8, 8, 8, 8, 8, 8, 8, 8, 8, 8, 8, 8, 8, 8, 8, 8, 8, 8, 8, 8, 8, 8, 8, 8, 8, 8, 8, 8, 8, 8, 8, 8, 8, 8, 8, 8, 8, 8, 8, 8, 8, 8, 8, 8, 8, 8, 8, 8, 8, 8, 8, 8, 8, 8, 8, 8, 8, 8, 8, 8, 8, 8, 8, 8, 8, 8, 8, 8, 8, 8, 8, 8, 8, 8, 8, 8, 8, 8, 8, 8, 8, 8, 8, 8, 8, 8, 8, 8, 8, 8, 8, 8, 8, 8, 8, 8, 8, 8, 8, 8, 8, 8, 8, 8, 8, 8, 8, 8, 8, 8, 8, 8]⟩) t_6) w fun t_7 w =>
        pvv prog (convert 5 3 t_7) w fun t_8 w =>
        pvv prog (binOp .add 3 n_5 t_8) w fun t_9 w =>
        K t_9 w) fun k_10 =>
      pvv prog (binOp .geq 111 x_2 (.int .u64 256)) w fun t_11 w =>
      cd t_11 (
        pvv prog (binOp .shr 111 x_2 (.int .u64 8)) w fun t_12 w =>
        pvv prog (binOp .add 3 n_3 (.int .i64 8)) w fun t_13 w =>
        k_10 [t_12, t_13] w) <|
      k_10 [x_2, n_3] w) fun k_14 =>
    pvv prog (binOp .geq 111 x_0 (.int .u64 65536)) w fun t_15 w =>
    cd t_15 (
      pvv prog (binOp .shr 111 x_0 (.int .u64 16)) w fun t_16 w =>
      pvv prog (binOp .add 3 n_1 (.int .i64 16)) w fun t_17 w =>
      k_14 [t_16, t_17] w) <|
    k_14 [x_0, n_1] w) fun k_18 =>
  pvv prog (binOp .geq 111 x_p0 (.int .u64 4294967296)) w fun t_19 w =>
  cd t_19 (
    pvv prog (binOp .shr 111 x_p0 (.int .u64 32)) w fun t_20 w =>
    k_18 [t_20, (.int .i64 32)] w) <|
  k_18 [x_p0, (.int .i64 0)] w
theorem B78_eq (x_p0 : Value) (w : World) (K : Value → World → Prop) : denFn prog Tryd.f78 T78 [x_p0] w K = B78 x_p0 w K := by kernel_rfl
theorem c78 {x_p0 : Value} {w : World} {K : Value → World → Prop} (h : B78 x_p0 w K) : Calls prog 78 #[x_p0] w (Ret K) :=
  denFn_calls Tryd.func78 T78_ok (Eq.mpr (B78_eq x_p0 w K) h)

-- 27 (*holdfast/holdfastref11.Table).Get
def T27 : Ann := (.seq .none (.seq (.seq .none (.seq .none (.seq (.seq .none .none) .none))) (.seq .none (.seq (.block (.seq .none (.seq (.seq .none .none) (.seq .none (.seq (.seq .none .none) .none))))) (.seq .none .none)))))
theorem T27_ok : chkFn prog Tryd.f27 T27 = true := by kernel_rfl
def B27 (t_p0 id_p1 now_p2 : Value) (w : World) (K : Value → World → Prop) : Prop :=
  efv prog (Instr.alloc 25 true (.tuple #[])) w fun t_0 w =>
  Calls prog 41 #[t_p0, now_p2] w (Ret fun t_1 w =>
  pvv prog (oEq .neq 34 (.tmp 14) (.const (.int .i64 0)) t_1 (.int .i64 0)) w fun t_2 w =>
  cd t_2 (
    pvv prog (Instr.build 25 #[]) w fun t_3 w =>
    efu prog (Instr.storeAt 25 t_0 t_3) w fun u_4 w =>
    ∃ r_5, (do loadVar 25 (← asAddr t_0)).run prog w = .ok r_5 w ∧ K (.tuple #[r_5, t_1]) w) <|
  Calls prog 43 #[t_p0, id_p1] w (Ret fun t_6 w =>
  pvv prog (Instr.extract t_6 0) w fun t_7 w =>
  pvv prog (Instr.extract t_6 1) w fun t_8 w =>
  pvv prog (oEq .neq 34 (.tmp 25) (.const (.int .i64 0)) t_8 (.int .i64 0)) w fun t_9 w =>
  cd t_9 (
    pvv prog (Instr.build 25 #[]) w fun t_10 w =>
    efu prog (Instr.storeAt 25 t_0 t_10) w fun u_11 w =>
    ∃ r_12, (do loadVar 25 (← asAddr t_0)).run prog w = .ok r_12 w ∧ K (.tuple #[r_12, t_8]) w) <|
  pv prog (oNil t_p0) w fun t_13 w =>
  pvv prog (Instr.fieldAt 63 t_13 2) w fun t_14 w =>
  ldv prog (Instr.loadAt 37 t_14) w fun t_15 w =>
  pvv prog (Instr.indexAt 37 t_15 t_7) w fun t_16 w =>
  ldv prog (Instr.loadAt 25 t_16) w fun t_17 w =>
  Calls prog 42 #[t_17, now_p2] w (Ret fun t_18 w =>
  cd t_18 (
    pvv prog (Instr.build 25 #[]) w fun t_19 w =>
    efu prog (Instr.storeAt 25 t_0 t_19) w fun u_20 w =>
    ∃ r_21, (do loadVar 25 (← asAddr t_0)).run prog w = .ok r_21 w ∧ K (.tuple #[r_21, (.int .i64 12)]) w) <|
  pv prog (oNil t_p0) w fun t_22 w =>
  pvv prog (Instr.fieldAt 63 t_22 2) w fun t_23 w =>
  ldv prog (Instr.loadAt 37 t_23) w fun t_24 w =>
  pvv prog (Instr.indexAt 37 t_24 t_7) w fun t_25 w =>
  ldv prog (Instr.loadAt 25 t_25) w fun t_26 w =>
  efu prog (Instr.storeAt 25 t_0 t_26) w fun u_27 w =>
  ∃ r_28, (do loadVar 25 (← asAddr t_0)).run prog w = .ok r_28 w ∧ K (.tuple #[r_28, (.int .i64 0)]) w)))
theorem B27_eq (t_p0 id_p1 now_p2 : Value) (w : World) (K : Value → World → Prop) : denFn prog Tryd.f27 T27 [t_p0, id_p1, now_p2] w K = B27 t_p0 id_p1 now_p2 w K := by kernel_rfl
theorem c27 {t_p0 id_p1 now_p2 : Value} {w : World} {K : Value → World → Prop} (h : B27 t_p0 id_p1 now_p2 w K) : Calls prog 27 #[t_p0, id_p1, now_p2] w (Ret K) :=
  denFn_calls Tryd.func27 T27_ok (Eq.mpr (B27_eq t_p0 id_p1 now_p2 w K) h)

-- 36 strings.Trim
def T36 : Ann := (.seq .none (.seq (.seq .none (.seq (.seq .none .none) .none)) (.seq (.seq .none (.seq (.seq (.draw [.op 0 .pure, .op 1 .pure, .op 2 .pure, .op 4 .pure, .op 5 .pure, .op 3 .eff, .op 6 .eff, .op 7 .pure]) .none) .none)) (.seq (.seq .none (.seq .none (.seq (.seq .none .none) .none))) (.seq .none .none)))))
theorem T36_ok : chkFn prog Tryd.f36 T36 = true := by kernel_rfl
def B36 (s_p0 cutset_p1 : Value) (w : World) (K : Value → World → Prop) : Prop :=
  pvv prog (oEq .eql 9 (.tmp 7) (.const (.string ⟨#[]⟩)) s_p0 (.string ⟨#[]⟩)) w fun t_0 w =>
  gate (some (t_0, false)) (fun K => K cutset_p1 w) w fun t_1 w =>
  gate (some (t_0, false)) (fun K => pvv prog (oEq .eql 9 (.tmp 10) (.const (.string ⟨#[]⟩)) t_1 (.string ⟨#[]⟩)) w K) w fun t_2 w =>
  pv prog (oPick t_0 (.bool true) t_2) w fun t_3 w =>
  cd t_3 (
    K s_p0 w) <|
  pv prog (oBi .len #[9] 3 #[false] #[cutset_p1]) w fun t_4 w =>
  pvv prog (oEq .eql 3 (.tmp 15) (.const (.int .i64 1)) t_4 (.int .i64 1)) w fun t_5 w =>
  gate (some (t_5, true)) (fun K => K cutset_p1 w) w fun t_6 w =>
  gate (some (t_5, true)) (fun K => pvv prog (Instr.index 9 t_6 (.int .i64 0)) w K) w fun t_7 w =>
  gate (some (t_5, true)) (fun K => pvv prog (binOp .lss 5 t_7 (.int .u8 128)) w K) w fun t_8 w =>
  pv prog (oPick t_5 t_8 (.bool false)) w fun t_9 w =>
  cd t_9 (
    dr w fun w =>
    pvv prog (Instr.index 9 cutset_p1 (.int .i64 0)) w fun t_10 w =>
    pvv prog (Instr.index 9 cutset_p1 (.int .i64 0)) w fun t_11 w =>
    Calls prog 49 #[s_p0, t_10] w (Ret fun t_12 w =>
    Calls prog 48 #[t_12, t_11] w (Ret fun t_13 w =>
    K t_13 w))) <|
  Calls prog 50 #[cutset_p1] w (Ret fun t_16 w =>
  pvv prog (Instr.extract t_16 0) w fun t_17 w =>
  pvv prog (Instr.extract t_16 1) w fun t_18 w =>
  efv prog (Instr.alloc 83 true (.tuple #[])) w fun as_19 w =>
  efu prog (Instr.storeAt 83 as_19 t_17) w fun u_20 w =>
  cd t_18 (
    Calls prog 52 #[s_p0, as_19] w (Ret fun t_21 w =>
    Calls prog 51 #[t_21, as_19] w (Ret fun t_22 w =>
    K t_22 w))) <|
  Calls prog 54 #[s_p0, cutset_p1] w (Ret fun t_23 w =>
  Calls prog 53 #[t_23, cutset_p1] w (Ret fun t_24 w =>
  K t_24 w)))
theorem B36_eq (s_p0 cutset_p1 : Value) (w : World) (K : Value → World → Prop) : denFn prog Tryd.f36 T36 [s_p0, cutset_p1] w K = B36 s_p0 cutset_p1 w K := by kernel_rfl
theorem c36 {s_p0 cutset_p1 : Value} {w : World} {K : Value → World → Prop} (h : B36 s_p0 cutset_p1 w K) : Calls prog 36 #[s_p0, cutset_p1] w (Ret K) :=
  denFn_calls Tryd.func36 T36_ok (Eq.mpr (B36_eq s_p0 cutset_p1 w K) h)

-- 15 (*holdfast/session.Table).Get
def T15 : Ann := (.seq .none (.seq (.seq .none (.seq .none (.seq (.seq .none .none) .none))) (.seq .none (.seq (.seq .none (.seq (.seq .none .none) .none)) (.seq .none .none)))))
theorem T15_ok : chkFn prog Tryd.f15 T15 = true := by kernel_rfl
def B15 (t_p0 id_p1 now_p2 : Value) (w : World) (K : Value → World → Prop) : Prop :=
  efv prog (Instr.alloc 25 true (.tuple #[])) w fun t_0 w =>
  Calls prog 21 #[t_p0, now_p2] w (Ret fun t_1 w =>
  pvv prog (oEq .neq 34 (.tmp 14) (.const (.int .i64 0)) t_1 (.int .i64 0)) w fun t_2 w =>
  cd t_2 (
    pvv prog (Instr.build 25 #[]) w fun t_3 w =>
    efu prog (Instr.storeAt 25 t_0 t_3) w fun u_4 w =>
    ∃ r_5, (do loadVar 25 (← asAddr t_0)).run prog w = .ok r_5 w ∧ K (.tuple #[r_5, t_1]) w) <|
  Calls prog 24 #[t_p0, id_p1] w (Ret fun t_6 w =>
  pvv prog (Instr.extract t_6 0) w fun t_7 w =>
  pvv prog (Instr.extract t_6 1) w fun t_8 w =>
  efv prog (Instr.alloc 25 true (.tuple #[])) w fun s_9 w =>
  efu prog (Instr.storeAt 25 s_9 t_7) w fun u_10 w =>
  pvv prog (oEq .eql 34 (.tmp 24) (.const (.int .i64 0)) t_8 (.int .i64 0)) w fun t_11 w =>
  gate (some (t_11, true)) (fun K => K now_p2 w) w fun t_12 w =>
  gate (some (t_11, true)) (fun K => ldv prog (Instr.loadAt 25 s_9) w K) w fun t_13 w =>
  gate (some (t_11, true)) (fun K => Calls prog 9 #[t_13] w (Ret K)) w fun t_14 w =>
  gate (some (t_11, true)) (fun K => pvv prog (binOp .geq 3 t_12 t_14) w K) w fun t_15 w =>
  pv prog (oPick t_11 t_15 (.bool false)) w fun t_16 w =>
  cd t_16 (
    pvv prog (Instr.build 25 #[]) w fun t_17 w =>
    efu prog (Instr.storeAt 25 t_0 t_17) w fun u_18 w =>
    ∃ r_19, (do loadVar 25 (← asAddr t_0)).run prog w = .ok r_19 w ∧ K (.tuple #[r_19, (.int .i64 12)]) w) <|
  ldv prog (Instr.loadAt 25 s_9) w fun t_20 w =>
  efu prog (Instr.storeAt 25 t_0 t_20) w fun u_21 w =>
  ∃ r_22, (do loadVar 25 (← asAddr t_0)).run prog w = .ok r_22 w ∧ K (.tuple #[r_22, t_8]) w))
theorem B15_eq (t_p0 id_p1 now_p2 : Value) (w : World) (K : Value → World → Prop) : denFn prog Tryd.f15 T15 [t_p0, id_p1, now_p2] w K = B15 t_p0 id_p1 now_p2 w K := by kernel_rfl
theorem c15 {t_p0 id_p1 now_p2 : Value} {w : World} {K : Value → World → Prop} (h : B15 t_p0 id_p1 now_p2 w K) : Calls prog 15 #[t_p0, id_p1, now_p2] w (Ret K) :=
  denFn_calls Tryd.func15 T15_ok (Eq.mpr (B15_eq t_p0 id_p1 now_p2 w K) h)

-- 54 strings.trimRightUnicode
def T54 : Ann := (.seq .none (.meet 8589934561 [0] (.block (.loop 8589934561 [0] (.seq (.seq .none (.seq .none .none)) (.block (.seq .none (.meet 8323168 [5, 6] (.seq .none (.seq .none .none)) (.seq (.seq .none (.seq .none .none)) .none))))))) (.seq .none .none)))
theorem T54_ok : chkFn prog Tryd.f54 T54 = true := by kernel_rfl
def B54 (s_p0 cutset_p1 : Value) (w : World) (K : Value → World → Prop) : Prop :=
  jn (fun σ w => pop σ fun s_0 σ => fin σ <|
    K s_0 w) fun k_1 =>
  lp (fun σ w again_3 => pop σ fun s_2 σ => fin σ <|
    pv prog (oBi .len #[9] 3 #[false] #[s_2]) w fun t_4 w =>
    pvv prog (binOp .gtr 3 t_4 (.int .i64 0)) w fun t_5 w =>
    cd t_5 (
      pv prog (oBi .len #[9] 3 #[false] #[s_2]) w fun t_6 w =>
      pvv prog (binOp .sub 3 t_6 (.int .i64 1)) w fun t_7 w =>
      pvv prog (Instr.index 9 s_2 t_7) w fun t_8 w =>
      pvv prog (convert 5 21 t_8) w fun t_9 w =>
      jn (fun σ w => pop σ fun r_10 σ => pop σ fun n_11 σ => fin σ <|
        Calls prog 60 #[cutset_p1, r_10] w (Ret fun t_12 w =>
        pvv prog (Op.unary .not t_12) w fun t_13 w =>
        cd t_13 (
          k_1 [s_2] w) <|
        pv prog (oBi .len #[9] 3 #[false] #[s_2]) w fun t_14 w =>
        pvv prog (binOp .sub 3 t_14 n_11) w fun t_15 w =>
        pvv prog (Instr.sliceAt 9 s_2 none (some t_15) none) w fun t_16 w =>
        again_3 [t_16] w)) fun k_17 =>
      pvv prog (binOp .geq 21 t_9 (.int .i32 128)) w fun t_18 w =>
      cd t_18 (
        Calls prog 61 #[s_2] w (Ret fun t_19 w =>
        pvv prog (Instr.extract t_19 0) w fun t_20 w =>
        pvv prog (Instr.extract t_19 1) w fun t_21 w =>
        k_17 [t_20, t_21] w)) <|
      k_17 [t_9, (.int .i64 1)] w) <|
    k_1 [s_2] w) [s_p0] w
theorem B54_eq (s_p0 cutset_p1 : Value) (w : World) (K : Value → World → Prop) : denFn prog Tryd.f54 T54 [s_p0, cutset_p1] w K = B54 s_p0 cutset_p1 w K := by kernel_rfl
theorem c54 {s_p0 cutset_p1 : Value} {w : World} {K : Value → World → Prop} (h : B54 s_p0 cutset_p1 w K) : Calls prog 54 #[s_p0, cutset_p1] w (Ret K) :=
  denFn_calls Tryd.func54 T54_ok (Eq.mpr (B54_eq s_p0 cutset_p1 w K) h)

-- 66 strings.IndexRune
def T66 : Ann := (.seq .none (.block (.seq .none (.seq (.seq .none .none) (.seq .none (.seq (.seq (.seq .none (.block (.loop 12164183355622992813219379528005579144973741782332342384 [] (.seq .none (.seq (.seq .none .none) (.block (.seq .none (.seq .none (.seq (.seq .none .none) .none))))))))) (.seq .none .none)) (.seq .none (.seq (.seq .none .none) .none))))))))
theorem T66_ok : chkFn prog Tryd.f66 T66 = true := by kernel_rfl
def B66 (s_p0 r_p1 : Value) (w : World) (K : Value → World → Prop) : Prop :=
  pvv prog (binOp .leq 21 (.int .i32 0) r_p1) w fun t_0 w =>
  gate (some (t_0, true)) (fun K => K r_p1 w) w fun t_1 w =>
  gate (some (t_0, true)) (fun K => pvv prog (binOp .lss 21 t_1 (.int .i32 128)) w K) w fun t_2 w =>
  pv prog (oPick t_0 t_2 (.bool false)) w fun t_3 w =>
  cd t_3 (
    pvv prog (convert 21 5 r_p1) w fun t_4 w =>
    Calls prog 79 #[s_p0, t_4] w (Ret fun t_5 w =>
    K t_5 w)) <|
  pvv prog (oEq .eql 21 (.tmp 172) (.const (.int .i32 65533)) r_p1 (.int .i32 65533)) w fun t_6 w =>
  cd t_6 (
    efv prog (Instr.range 9 s_p0) w fun t_7 w =>
    lp (fun σ w again_8 => fin σ <|
      efv prog (Instr.next t_7 true 0) w fun t_9 w =>
      pvv prog (Instr.extract t_9 0) w fun t_10 w =>
      cd t_10 (
        pvv prog (Instr.extract t_9 1) w fun t_11 w =>
        pvv prog (Instr.extract t_9 2) w fun t_12 w =>
        pvv prog (oEq .eql 21 (.tmp 180) (.const (.int .i32 65533)) t_12 (.int .i32 65533)) w fun t_13 w =>
        cd t_13 (
          K t_11 w) <|
        again_8 [] w) <|
      K (.int .i64 (-1)) w) [] w) <|
  Calls prog 80 #[r_p1] w (Ret fun t_14 w =>
  pvv prog (Op.unary .not t_14) w fun t_15 w =>
  cd t_15 (
    K (.int .i64 (-1)) w) <|
  False)
theorem B66_eq (s_p0 r_p1 : Value) (w : World) (K : Value → World → Prop) : denFn prog Tryd.f66 T66 [s_p0, r_p1] w K = B66 s_p0 r_p1 w K := by kernel_rfl
theorem c66 {s_p0 r_p1 : Value} {w : World} {K : Value → World → Prop} (h : B66 s_p0 r_p1 w K) : Calls prog 66 #[s_p0, r_p1] w (Ret K) :=
  denFn_calls Tryd.func66 T66_ok (Eq.mpr (B66_eq s_p0 r_p1 w K) h)

-- 90 slices.order2Ordered[int]
def T90 : Ann := (.seq .none (.seq (.seq (.draw [.op 0 .pure, .op 1 .pure, .op 2 .pure, .op 4 .pure, .op 5 .pure, .op 6 .pure, .op 3 .load, .op 7 .load, .op 8 .eff]) (.seq (.seq .none (.seq .none .none)) .none)) (.seq .none .none)))
theorem T90_ok : chkFn prog Tryd.f90 T90 = true := by kernel_rfl
def B90 (data_p0 a_p1 b_p2 swaps_p3 : Value) (w : World) (K : Value → World → Prop) : Prop :=
  dr w fun w =>
  pvv prog (Instr.indexAt 65 data_p0 b_p2) w fun t_0 w =>
  pvv prog (Instr.indexAt 65 data_p0 a_p1) w fun t_1 w =>
  bindS (vN (Instr.loadAt 3 t_0)) fun m_3 => ldv prog (Instr.loadAt 3 t_0) w fun t_2 w =>
  bindS (vN (Instr.loadAt 3 t_1)) fun m_5 => ldv prog (Instr.loadAt 3 t_1) w fun t_4 w =>
  Calls prog 74 #[t_2, t_4] w (Ret fun t_6 w =>
  cd t_6 (
    pv prog (oNil swaps_p3) w fun t_7 w =>
    ldv prog (Instr.loadAt 3 t_7) w fun t_8 w =>
    pvv prog (binOp .add 3 t_8 (.int .i64 1)) w fun t_9 w =>
    pv prog (oNil swaps_p3) w fun t_10 w =>
    efu prog (Instr.storeAt 3 t_10 t_9) w fun u_11 w =>
    K (.tuple #[b_p2, a_p1]) w) <|
  K (.tuple #[a_p1, b_p2]) w)
theorem B90_eq (data_p0 a_p1 b_p2 swaps_p3 : Value) (w : World) (K : Value → World → Prop) : denFn prog Tryd.f90 T90 [data_p0, a_p1, b_p2, swaps_p3] w K = B90 data_p0 a_p1 b_p2 swaps_p3 w K := by kernel_rfl
theorem c90 {data_p0 a_p1 b_p2 swaps_p3 : Value} {w : World} {K : Value → World → Prop} (h : B90 data_p0 a_p1 b_p2 swaps_p3 w K) : Calls prog 90 #[data_p0, a_p1, b_p2, swaps_p3] w (Ret K) :=
  denFn_calls Tryd.func90 T90_ok (Eq.mpr (B90_eq data_p0 a_p1 b_p2 swaps_p3 w K) h)

-- 52 strings.trimRightASCII
def T52 : Ann := (.seq .none (.meet 2097121 [0] (.block (.loop 2097121 [0] (.seq (.seq .none (.seq .none .none)) (.block (.seq (.seq .none (.seq .none .none)) .none))))) (.seq .none .none)))
theorem T52_ok : chkFn prog Tryd.f52 T52 = true := by kernel_rfl
def B52 (s_p0 as_p1 : Value) (w : World) (K : Value → World → Prop) : Prop :=
  jn (fun σ w => pop σ fun s_0 σ => fin σ <|
    K s_0 w) fun k_1 =>
  lp (fun σ w again_3 => pop σ fun s_2 σ => fin σ <|
    pv prog (oBi .len #[9] 3 #[false] #[s_2]) w fun t_4 w =>
    pvv prog (binOp .gtr 3 t_4 (.int .i64 0)) w fun t_5 w =>
    cd t_5 (
      pv prog (oBi .len #[9] 3 #[false] #[s_2]) w fun t_6 w =>
      pvv prog (binOp .sub 3 t_6 (.int .i64 1)) w fun t_7 w =>
      pvv prog (Instr.index 9 s_2 t_7) w fun t_8 w =>
      Calls prog 58 #[as_p1, t_8] w (Ret fun t_9 w =>
      pvv prog (Op.unary .not t_9) w fun t_10 w =>
      cd t_10 (
        k_1 [s_2] w) <|
      pv prog (oBi .len #[9] 3 #[false] #[s_2]) w fun t_11 w =>
      pvv prog (binOp .sub 3 t_11 (.int .i64 1)) w fun t_12 w =>
      pvv prog (Instr.sliceAt 9 s_2 none (some t_12) none) w fun t_13 w =>
      again_3 [t_13] w)) <|
    k_1 [s_2] w) [s_p0] w
theorem B52_eq (s_p0 as_p1 : Value) (w : World) (K : Value → World → Prop) : denFn prog Tryd.f52 T52 [s_p0, as_p1] w K = B52 s_p0 as_p1 w K := by kernel_rfl
theorem c52 {s_p0 as_p1 : Value} {w : World} {K : Value → World → Prop} (h : B52 s_p0 as_p1 w K) : Calls prog 52 #[s_p0, as_p1] w (Ret K) :=
  denFn_calls Tryd.func52 T52_ok (Eq.mpr (B52_eq s_p0 as_p1 w K) h)

-- 51 strings.trimLeftASCII
def T51 : Ann := (.seq .none (.meet 32737 [0] (.block (.loop 32737 [0] (.seq (.seq .none (.seq .none .none)) (.block (.seq (.seq .none (.seq .none .none)) .none))))) (.seq .none .none)))
theorem T51_ok : chkFn prog Tryd.f51 T51 = true := by kernel_rfl
def B51 (s_p0 as_p1 : Value) (w : World) (K : Value → World → Prop) : Prop :=
  jn (fun σ w => pop σ fun s_0 σ => fin σ <|
    K s_0 w) fun k_1 =>
  lp (fun σ w again_3 => pop σ fun s_2 σ => fin σ <|
    pv prog (oBi .len #[9] 3 #[false] #[s_2]) w fun t_4 w =>
    pvv prog (binOp .gtr 3 t_4 (.int .i64 0)) w fun t_5 w =>
    cd t_5 (
      pvv prog (Instr.index 9 s_2 (.int .i64 0)) w fun t_6 w =>
      Calls prog 58 #[as_p1, t_6] w (Ret fun t_7 w =>
      pvv prog (Op.unary .not t_7) w fun t_8 w =>
      cd t_8 (
        k_1 [s_2] w) <|
      pvv prog (Instr.sliceAt 9 s_2 (some (.int .i64 1)) none none) w fun t_9 w =>
      again_3 [t_9] w)) <|
    k_1 [s_2] w) [s_p0] w
theorem B51_eq (s_p0 as_p1 : Value) (w : World) (K : Value → World → Prop) : denFn prog Tryd.f51 T51 [s_p0, as_p1] w K = B51 s_p0 as_p1 w K := by kernel_rfl
theorem c51 {s_p0 as_p1 : Value} {w : World} {K : Value → World → Prop} (h : B51 s_p0 as_p1 w K) : Calls prog 51 #[s_p0, as_p1] w (Ret K) :=
  denFn_calls Tryd.func51 T51_ok (Eq.mpr (B51_eq s_p0 as_p1 w K) h)

-- 57 maps.Keys[map[int]holdfast/api.Session,int,holdfast/api.Session]$1
def T57 : Ann := (.seq .none (.block (.loop 16328 [] (.seq .none (.seq (.seq .none .none) (.block (.seq .none (.seq .none (.seq .none .none)))))))))
theorem T57_ok : chkFn prog Tryd.f57 T57 = true := by kernel_rfl
def B57 (yield_p0 x_p1 : Value) (w : World) (K : Value → World → Prop) : Prop :=
  ldv prog (Instr.loadAt 54 x_p1) w fun t_0 w =>
  efv prog (Instr.range 54 t_0) w fun t_1 w =>
  lp (fun σ w again_2 => fin σ <|
    efv prog (Instr.next t_1 false 0) w fun t_3 w =>
    pvv prog (Instr.extract t_3 0) w fun t_4 w =>
    cd t_4 (
      efv prog (Instr.entry t_1) w fun t_5 w =>
      pvv prog (Instr.extract t_5 0) w fun t_6 w =>
      ef prog (oCall yield_p0 #[t_6]) w fun t_7 w =>
      pvv prog (Op.unary .not t_7) w fun t_8 w =>
      cd t_8 (
        K (.tuple #[]) w) <|
      again_2 [] w) <|
    K (.tuple #[]) w) [] w
theorem B57_eq (yield_p0 x_p1 : Value) (w : World) (K : Value → World → Prop) : denFn prog Tryd.f57 T57 [yield_p0, x_p1] w K = B57 yield_p0 x_p1 w K := by kernel_rfl
theorem c57 {yield_p0 x_p1 : Value} {w : World} {K : Value → World → Prop} (h : B57 yield_p0 x_p1 w K) : Calls prog 57 #[yield_p0, x_p1] w (Ret K) :=
  denFn_calls Tryd.func57 T57_ok (Eq.mpr (B57_eq yield_p0 x_p1 w K) h)

-- 62 slices.AppendSeq[[]int,int]
def T62 : Ann := (.seq .none (.seq (.seq .none (.block (.range .none (.block .none)))) (.seq .none .none)))
theorem T62_ok : chkFn prog Tryd.f62 T62 = true := by kernel_rfl
def B62 (s_p0 seq_p1 : Value) (w : World) (K : Value → World → Prop) : Prop :=
  efv prog (Instr.box 65 s_p0) w fun s_0 w =>
  rng prog 1 seq_p1 (fun σ w bg_2 ex_3 => pop σ fun t_1 σ => fin σ <|
    bg_2 w fun w =>
    ldv prog (Instr.loadAt 65 s_0) w fun t_4 w =>
    efv prog (Instr.buildSlice 65 1 #[(0, t_1)]) w fun t_5 w =>
    ef prog (oBi .append #[65, 65] 65 #[false, false] #[t_4, t_5]) w fun t_6 w =>
    efu prog (Instr.storeAt 65 s_0 t_6) w fun u_7 w =>
    ex_3 .normal w) w fun p_9 D_8 w =>
  jump (
    ldv prog (Instr.loadAt 65 s_0) w fun t_10 w =>
    und [D_8] w fun w => K t_10 w) (
    und [D_8] w fun w => K (.slice none 0 0) w) [] p_9
theorem B62_eq (s_p0 seq_p1 : Value) (w : World) (K : Value → World → Prop) : denFn prog Tryd.f62 T62 [s_p0, seq_p1] w K = B62 s_p0 seq_p1 w K := by kernel_rfl
theorem c62 {s_p0 seq_p1 : Value} {w : World} {K : Value → World → Prop} (h : B62 s_p0 seq_p1 w K) : Calls prog 62 #[s_p0, seq_p1] w (Ret K) :=
  denFn_calls Tryd.func62 T62_ok (Eq.mpr (B62_eq s_p0 seq_p1 w K) h)

-- 28 (*holdfast/holdfastref11.Table).End
def T28 : Ann := (.seq .none (.seq (.seq .none (.seq (.seq .none .none) .none)) (.seq (.seq .none (.seq .none (.seq (.seq .none .none) .none))) (.seq .none (.seq .none .none)))))
theorem T28_ok : chkFn prog Tryd.f28 T28 = true := by kernel_rfl
def B28 (t_p0 id_p1 : Value) (w : World) (K : Value → World → Prop) : Prop :=
  pvv prog (oEq .eql 45 (.tmp 7) (.const (.pointer none)) t_p0 (.pointer none)) w fun t_0 w =>
  cd t_0 (
    K (.int .i64 1) w) <|
  Calls prog 43 #[t_p0, id_p1] w (Ret fun t_1 w =>
  pvv prog (Instr.extract t_1 0) w fun t_2 w =>
  pvv prog (Instr.extract t_1 1) w fun t_3 w =>
  pvv prog (oEq .neq 34 (.tmp 15) (.const (.int .i64 0)) t_3 (.int .i64 0)) w fun t_4 w =>
  cd t_4 (
    K t_3 w) <|
  Calls prog 44 #[t_p0, id_p1] w (Ret fun t_5 w =>
  K (.int .i64 0) w))
theorem B28_eq (t_p0 id_p1 : Value) (w : World) (K : Value → World → Prop) : denFn prog Tryd.f28 T28 [t_p0, id_p1] w K = B28 t_p0 id_p1 w K := by kernel_rfl
theorem c28 {t_p0 id_p1 : Value} {w : World} {K : Value → World → Prop} (h : B28 t_p0 id_p1 w K) : Calls prog 28 #[t_p0, id_p1] w (Ret K) :=
  denFn_calls Tryd.func28 T28_ok (Eq.mpr (B28_eq t_p0 id_p1 w K) h)

-- 19 holdfast/session.later
def T19 : Ann := (.seq .none (.seq (.seq .none (.seq (.seq .none .none) .none)) (.seq .none .none)))
theorem T19_ok : chkFn prog Tryd.f19 T19 = true := by kernel_rfl
def B19 (t_p0 by_p1 : Value) (w : World) (K : Value → World → Prop) : Prop :=
  pvv prog (binOp .sub 3 (.int .i64 1099511627776) by_p1) w fun t_0 w =>
  pvv prog (binOp .gtr 3 t_p0 t_0) w fun t_1 w =>
  cd t_1 (
    K (.int .i64 1099511627776) w) <|
  pvv prog (binOp .add 3 t_p0 by_p1) w fun t_2 w =>
  K t_2 w
theorem B19_eq (t_p0 by_p1 : Value) (w : World) (K : Value → World → Prop) : denFn prog Tryd.f19 T19 [t_p0, by_p1] w K = B19 t_p0 by_p1 w K := by kernel_rfl
theorem c19 {t_p0 by_p1 : Value} {w : World} {K : Value → World → Prop} (h : B19 t_p0 by_p1 w K) : Calls prog 19 #[t_p0, by_p1] w (Ret K) :=
  denFn_calls Tryd.func19 T19_ok (Eq.mpr (B19_eq t_p0 by_p1 w K) h)

-- 42 holdfast/holdfastref11.over
def T42 : Ann := (.seq .none (.seq .none .none))
theorem T42_ok : chkFn prog Tryd.f42 T42 = true := by kernel_rfl
def B42 (s_p0 now_p1 : Value) (w : World) (K : Value → World → Prop) : Prop :=
  efv prog (Instr.box 25 s_p0) w fun s_0 w =>
  ldv prog (Instr.loadAt 25 s_0) w fun t_1 w =>
  Calls prog 10 #[t_1] w (Ret fun t_2 w =>
  pvv prog (binOp .geq 3 now_p1 t_2) w fun t_3 w =>
  K t_3 w)
theorem B42_eq (s_p0 now_p1 : Value) (w : World) (K : Value → World → Prop) : denFn prog Tryd.f42 T42 [s_p0, now_p1] w K = B42 s_p0 now_p1 w K := by kernel_rfl
theorem c42 {s_p0 now_p1 : Value} {w : World} {K : Value → World → Prop} (h : B42 s_p0 now_p1 w K) : Calls prog 42 #[s_p0, now_p1] w (Ret K) :=
  denFn_calls Tryd.func42 T42_ok (Eq.mpr (B42_eq s_p0 now_p1 w K) h)

-- 39 maps.Keys[map[int]holdfast/api.Session,int,holdfast/api.Session]
def T39 : Ann := (.seq .none (.seq .none .none))
theorem T39_ok : chkFn prog Tryd.f39 T39 = true := by kernel_rfl
def B39 (m_p0 : Value) (w : World) (K : Value → World → Prop) : Prop :=
  efv prog (Instr.box 54 m_p0) w fun m_0 w =>
  pvv prog (Instr.makeFunc (.func 57) #[] #[m_0]) w fun t_1 w =>
  K t_1 w
theorem B39_eq (m_p0 : Value) (w : World) (K : Value → World → Prop) : denFn prog Tryd.f39 T39 [m_p0] w K = B39 m_p0 w K := by kernel_rfl
theorem c39 {m_p0 : Value} {w : World} {K : Value → World → Prop} (h : B39 m_p0 w K) : Calls prog 39 #[m_p0] w (Ret K) :=
  denFn_calls Tryd.func39 T39_ok (Eq.mpr (B39_eq m_p0 w K) h)

-- 60 strings.ContainsRune
def T60 : Ann := (.seq .none (.seq .none .none))
theorem T60_ok : chkFn prog Tryd.f60 T60 = true := by kernel_rfl
def B60 (s_p0 r_p1 : Value) (w : World) (K : Value → World → Prop) : Prop :=
  Calls prog 66 #[s_p0, r_p1] w (Ret fun t_0 w =>
  pvv prog (binOp .geq 3 t_0 (.int .i64 0)) w fun t_1 w =>
  K t_1 w)
theorem B60_eq (s_p0 r_p1 : Value) (w : World) (K : Value → World → Prop) : denFn prog Tryd.f60 T60 [s_p0, r_p1] w K = B60 s_p0 r_p1 w K := by kernel_rfl
theorem c60 {s_p0 r_p1 : Value} {w : World} {K : Value → World → Prop} (h : B60 s_p0 r_p1 w K) : Calls prog 60 #[s_p0, r_p1] w (Ret K) :=
  denFn_calls Tryd.func60 T60_ok (Eq.mpr (B60_eq s_p0 r_p1 w K) h)

-- 55 slices.Collect[int]
def T55 : Ann := (.seq .none (.seq .none .none))
theorem T55_ok : chkFn prog Tryd.f55 T55 = true := by kernel_rfl
def B55 (seq_p0 : Value) (w : World) (K : Value → World → Prop) : Prop :=
  Calls prog 62 #[(.slice none 0 0), seq_p0] w (Ret fun t_0 w =>
  K t_0 w)
theorem B55_eq (seq_p0 : Value) (w : World) (K : Value → World → Prop) : denFn prog Tryd.f55 T55 [seq_p0] w K = B55 seq_p0 w K := by kernel_rfl
theorem c55 {seq_p0 : Value} {w : World} {K : Value → World → Prop} (h : B55 seq_p0 w K) : Calls prog 55 #[seq_p0] w (Ret K) :=
  denFn_calls Tryd.func55 T55_ok (Eq.mpr (B55_eq seq_p0 w K) h)

-- 16 holdfast/holdfastref11.New
def T16 : Ann := (.seq .none (.seq .none .none))
theorem T16_ok : chkFn prog Tryd.f16 T16 = true := by kernel_rfl
def B16 (w : World) (K : Value → World → Prop) : Prop :=
  pvv prog (Instr.build 63 #[(0, (.int .i64 1))]) w fun t_0 w =>
  efv prog (Instr.box 63 t_0) w fun t_1 w =>
  K t_1 w
theorem B16_eq (w : World) (K : Value → World → Prop) : denFn prog Tryd.f16 T16 [] w K = B16  w K := by kernel_rfl
theorem c16 {w : World} {K : Value → World → Prop} (h : B16  w K) : Calls prog 16 #[] w (Ret K) :=
  denFn_calls Tryd.func16 T16_ok (Eq.mpr (B16_eq  w K) h)


end Go.Proofs.YticbbnjhiiimcaaDoor
