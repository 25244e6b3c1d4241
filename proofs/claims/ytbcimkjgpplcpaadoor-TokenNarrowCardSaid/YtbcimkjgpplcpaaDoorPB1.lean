import Derived.Test.YtbcimkjgpplcpaaDoorPI
set_option linter.all false
set_option maxRecDepth 100000
namespace Go.Proofs.YtbcimkjgpplcpaaDoor
open Go Hold
-- 104 slices.partitionOrdered[int]
def T104 : Ann := (.seq .none (.seq (.draw [.op 0 .pure, .op 1 .pure, .op 2 .pure, .op 3 .pure, .op 4 .pure, .op 5 .pure, .op 6 .pure, .op 8 .pure, .op 9 .pure, .op 10 .pure, .op 7 .load, .op 11 .load, .op 12 .pure, .op 13 .eff, .op 14 .pure, .op 15 .eff]) (.seq .none (.seq (.block (.loop 70367670436864 [10] (.seq (.seq (.draw [.op 0 .pure, .op 1 .pure, .op 2 .pure, .op 3 .pure, .op 4 .pure, .op 5 .pure, .op 6 .pure, .op 8 .pure, .op 9 .pure, .op 10 .pure, .op 7 .load, .op 11 .load, .op 12 .eff, .op 13 .pure]) (.seq .none .none)) (.block .none)))) (.seq (.block (.loop 9223301668110600192 [11] (.seq (.seq (.draw [.op 0 .pure, .op 1 .pure, .op 2 .pure, .op 3 .pure, .op 4 .pure, .op 5 .pure, .op 6 .pure, .op 8 .pure, .op 9 .pure, .op 10 .pure, .op 7 .load, .op 11 .load, .op 12 .eff, .op 13 .pure, .op 14 .pure]) (.seq .none .none)) (.block .none)))) (.seq (.seq .none (.seq (.seq (.draw [.op 0 .pure, .op 1 .pure, .op 2 .pure, .op 3 .pure, .op 4 .pure, .op 5 .pure, .op 6 .pure, .op 8 .pure, .op 9 .pure, .op 10 .pure, .op 7 .load, .op 11 .load, .op 12 .pure, .op 13 .eff, .op 14 .pure, .op 15 .eff]) (.seq .none .none)) .none)) (.seq (.draw [.op 0 .pure, .op 1 .pure, .op 2 .pure, .op 3 .pure, .op 4 .pure, .op 5 .pure, .op 6 .pure, .op 8 .pure, .op 9 .pure, .op 10 .pure, .op 7 .load, .op 11 .load, .op 12 .pure, .op 13 .eff, .op 14 .pure, .op 15 .eff]) (.seq .none (.seq .none (.seq (.block (.loop 11417981541647678414640987641481260342710373376 [10, 11] (.block (.seq (.block (.loop 41537741042978506913543222282159104 [10] (.seq (.seq (.draw [.op 0 .pure, .op 1 .pure, .op 2 .pure, .op 3 .pure, .op 4 .pure, .op 5 .pure, .op 6 .pure, .op 8 .pure, .op 9 .pure, .op 10 .pure, .op 7 .load, .op 11 .load, .op 12 .eff, .op 13 .pure]) (.seq .none .none)) (.block .none)))) (.seq (.block (.loop 5444476332360147136792965474937657624576 [11] (.seq (.seq (.draw [.op 0 .pure, .op 1 .pure, .op 2 .pure, .op 3 .pure, .op 4 .pure, .op 5 .pure, .op 6 .pure, .op 8 .pure, .op 9 .pure, .op 10 .pure, .op 7 .load, .op 11 .load, .op 12 .eff, .op 13 .pure, .op 14 .pure]) (.seq .none .none)) (.block .none)))) (.seq (.seq .none (.seq .none .none)) (.seq (.draw [.op 0 .pure, .op 1 .pure, .op 2 .pure, .op 3 .pure, .op 4 .pure, .op 5 .pure, .op 6 .pure, .op 8 .pure, .op 9 .pure, .op 10 .pure, .op 7 .load, .op 11 .load, .op 12 .pure, .op 13 .eff, .op 14 .pure, .op 15 .eff]) (.seq .none .none)))))))) (.seq (.draw [.op 0 .pure, .op 1 .pure, .op 2 .pure, .op 3 .pure, .op 4 .pure, .op 5 .pure, .op 6 .pure, .op 8 .pure, .op 9 .pure, .op 10 .pure, .op 7 .load, .op 11 .load, .op 12 .pure, .op 13 .eff, .op 14 .pure, .op 15 .eff]) (.seq .none .none))))))))))))
theorem T104_ok : chkFn prog Tryd.f104 T104 = true := by kernel_rfl
def B104 (data_p0 a_p1 b_p2 pivot_p3 : Value) (w : World) (K : Value → World → Prop) : Prop :=
  dr w fun w =>
  pvv prog (Instr.indexAt 41 data_p0 pivot_p3) w fun t_0 w =>
  pvv prog (Instr.indexAt 41 data_p0 a_p1) w fun t_1 w =>
  bindS (vN (Instr.loadAt 3 t_0)) fun m_3 => ldv prog (Instr.loadAt 3 t_0) w fun t_2 w =>
  bindS (vN (Instr.loadAt 3 t_1)) fun m_5 => ldv prog (Instr.loadAt 3 t_1) w fun t_4 w =>
  pvv prog (Instr.indexAt 41 data_p0 a_p1) w fun t_6 w =>
  efu prog (Instr.storeAt 3 t_6 t_2) w fun u_7 w =>
  pvv prog (Instr.indexAt 41 data_p0 pivot_p3) w fun t_8 w =>
  efu prog (Instr.storeAt 3 t_8 t_4) w fun u_9 w =>
  pvv prog (binOp .add 3 a_p1 (.int .i64 1)) w fun t_10 w =>
  pvv prog (binOp .sub 3 b_p2 (.int .i64 1)) w fun t_11 w =>
  lp (fun σ w again_13 => pop σ fun i_12 σ => fin σ <|
    dr w fun w =>
    pvv prog (binOp .leq 3 i_12 t_11) w fun t_14 w =>
    gate (some (t_14, true)) (fun K => K data_p0 w) w fun t_15 w =>
    gate (some (t_14, true)) (fun K => K i_12 w) w fun t_16 w =>
    gate (some (t_14, true)) (fun K => pvv prog (Instr.indexAt 41 t_15 t_16) w K) w fun t_17 w =>
    gate (some (t_14, true)) (fun K => K data_p0 w) w fun t_18 w =>
    gate (some (t_14, true)) (fun K => K a_p1 w) w fun t_19 w =>
    gate (some (t_14, true)) (fun K => pvv prog (Instr.indexAt 41 t_18 t_19) w K) w fun t_20 w =>
    bindS (vN (Instr.loadAt 3 t_17)) fun m_22 => gate (some (t_14, true)) (fun K => ldv prog (Instr.loadAt 3 t_17) w K) w fun t_21 w =>
    bindS (vN (Instr.loadAt 3 t_20)) fun m_24 => gate (some (t_14, true)) (fun K => ldv prog (Instr.loadAt 3 t_20) w K) w fun t_23 w =>
    gate (some (t_14, true)) (fun K => Calls prog 102 #[t_21, t_23] w (Ret fun s_138 w => K s_138 w)) w fun t_25 w =>
    pv prog (oPick t_14 t_25 (.bool false)) w fun t_26 w =>
    cd t_26 (
      pvv prog (binOp .add 3 i_12 (.int .i64 1)) w fun t_27 w =>
      again_13 [t_27] w) <|
    lp (fun σ w again_29 => pop σ fun j_28 σ => fin σ <|
      dr w fun w =>
      pvv prog (binOp .leq 3 i_12 j_28) w fun t_30 w =>
      gate (some (t_30, true)) (fun K => K data_p0 w) w fun t_31 w =>
      gate (some (t_30, true)) (fun K => K j_28 w) w fun t_32 w =>
      gate (some (t_30, true)) (fun K => pvv prog (Instr.indexAt 41 t_31 t_32) w K) w fun t_33 w =>
      gate (some (t_30, true)) (fun K => K data_p0 w) w fun t_34 w =>
      gate (some (t_30, true)) (fun K => K a_p1 w) w fun t_35 w =>
      gate (some (t_30, true)) (fun K => pvv prog (Instr.indexAt 41 t_34 t_35) w K) w fun t_36 w =>
      bindS (vN (Instr.loadAt 3 t_33)) fun m_38 => gate (some (t_30, true)) (fun K => ldv prog (Instr.loadAt 3 t_33) w K) w fun t_37 w =>
      bindS (vN (Instr.loadAt 3 t_36)) fun m_40 => gate (some (t_30, true)) (fun K => ldv prog (Instr.loadAt 3 t_36) w K) w fun t_39 w =>
      gate (some (t_30, true)) (fun K => Calls prog 102 #[t_37, t_39] w (Ret fun s_137 w => K s_137 w)) w fun t_41 w =>
      gate (some (t_30, true)) (fun K => pvv prog (Op.unary .not t_41) w K) w fun t_42 w =>
      pv prog (oPick t_30 t_42 (.bool false)) w fun t_43 w =>
      cd t_43 (
        pvv prog (binOp .sub 3 j_28 (.int .i64 1)) w fun t_44 w =>
        again_29 [t_44] w) <|
      pvv prog (binOp .gtr 3 i_12 j_28) w fun t_45 w =>
      cd t_45 (
        dr w fun w =>
        pvv prog (Instr.indexAt 41 data_p0 a_p1) w fun t_46 w =>
        pvv prog (Instr.indexAt 41 data_p0 j_28) w fun t_47 w =>
        bindS (vN (Instr.loadAt 3 t_46)) fun m_49 => ldv prog (Instr.loadAt 3 t_46) w fun t_48 w =>
        bindS (vN (Instr.loadAt 3 t_47)) fun m_51 => ldv prog (Instr.loadAt 3 t_47) w fun t_50 w =>
        pvv prog (Instr.indexAt 41 data_p0 j_28) w fun t_52 w =>
        efu prog (Instr.storeAt 3 t_52 t_48) w fun u_53 w =>
        pvv prog (Instr.indexAt 41 data_p0 a_p1) w fun t_54 w =>
        efu prog (Instr.storeAt 3 t_54 t_50) w fun u_55 w =>
        K (.tuple #[j_28, (.bool true)]) w) <|
      dr w fun w =>
      pvv prog (Instr.indexAt 41 data_p0 j_28) w fun t_58 w =>
      pvv prog (Instr.indexAt 41 data_p0 i_12) w fun t_59 w =>
      bindS (vN (Instr.loadAt 3 t_58)) fun m_61 => ldv prog (Instr.loadAt 3 t_58) w fun t_60 w =>
      bindS (vN (Instr.loadAt 3 t_59)) fun m_63 => ldv prog (Instr.loadAt 3 t_59) w fun t_62 w =>
      pvv prog (Instr.indexAt 41 data_p0 i_12) w fun t_64 w =>
      efu prog (Instr.storeAt 3 t_64 t_60) w fun u_65 w =>
      pvv prog (Instr.indexAt 41 data_p0 j_28) w fun t_66 w =>
      efu prog (Instr.storeAt 3 t_66 t_62) w fun u_67 w =>
      pvv prog (binOp .add 3 i_12 (.int .i64 1)) w fun t_68 w =>
      pvv prog (binOp .sub 3 j_28 (.int .i64 1)) w fun t_69 w =>
      lp (fun σ w again_72 => pop σ fun i_70 σ => pop σ fun j_71 σ => fin σ <|
        lp (fun σ w again_74 => pop σ fun i_73 σ => fin σ <|
          dr w fun w =>
          pvv prog (binOp .leq 3 i_73 j_71) w fun t_75 w =>
          gate (some (t_75, true)) (fun K => K data_p0 w) w fun t_76 w =>
          gate (some (t_75, true)) (fun K => K i_73 w) w fun t_77 w =>
          gate (some (t_75, true)) (fun K => pvv prog (Instr.indexAt 41 t_76 t_77) w K) w fun t_78 w =>
          gate (some (t_75, true)) (fun K => K data_p0 w) w fun t_79 w =>
          gate (some (t_75, true)) (fun K => K a_p1 w) w fun t_80 w =>
          gate (some (t_75, true)) (fun K => pvv prog (Instr.indexAt 41 t_79 t_80) w K) w fun t_81 w =>
          bindS (vN (Instr.loadAt 3 t_78)) fun m_83 => gate (some (t_75, true)) (fun K => ldv prog (Instr.loadAt 3 t_78) w K) w fun t_82 w =>
          bindS (vN (Instr.loadAt 3 t_81)) fun m_85 => gate (some (t_75, true)) (fun K => ldv prog (Instr.loadAt 3 t_81) w K) w fun t_84 w =>
          gate (some (t_75, true)) (fun K => Calls prog 102 #[t_82, t_84] w (Ret fun s_134 w => K s_134 w)) w fun t_86 w =>
          pv prog (oPick t_75 t_86 (.bool false)) w fun t_87 w =>
          cd t_87 (
            pvv prog (binOp .add 3 i_73 (.int .i64 1)) w fun t_88 w =>
            again_74 [t_88] w) <|
          lp (fun σ w again_90 => pop σ fun j_89 σ => fin σ <|
            dr w fun w =>
            pvv prog (binOp .leq 3 i_73 j_89) w fun t_91 w =>
            gate (some (t_91, true)) (fun K => K data_p0 w) w fun t_92 w =>
            gate (some (t_91, true)) (fun K => K j_89 w) w fun t_93 w =>
            gate (some (t_91, true)) (fun K => pvv prog (Instr.indexAt 41 t_92 t_93) w K) w fun t_94 w =>
            gate (some (t_91, true)) (fun K => K data_p0 w) w fun t_95 w =>
            gate (some (t_91, true)) (fun K => K a_p1 w) w fun t_96 w =>
            gate (some (t_91, true)) (fun K => pvv prog (Instr.indexAt 41 t_95 t_96) w K) w fun t_97 w =>
            bindS (vN (Instr.loadAt 3 t_94)) fun m_99 => gate (some (t_91, true)) (fun K => ldv prog (Instr.loadAt 3 t_94) w K) w fun t_98 w =>
            bindS (vN (Instr.loadAt 3 t_97)) fun m_101 => gate (some (t_91, true)) (fun K => ldv prog (Instr.loadAt 3 t_97) w K) w fun t_100 w =>
            gate (some (t_91, true)) (fun K => Calls prog 102 #[t_98, t_100] w (Ret fun s_133 w => K s_133 w)) w fun t_102 w =>
            gate (some (t_91, true)) (fun K => pvv prog (Op.unary .not t_102) w K) w fun t_103 w =>
            pv prog (oPick t_91 t_103 (.bool false)) w fun t_104 w =>
            cd t_104 (
              pvv prog (binOp .sub 3 j_89 (.int .i64 1)) w fun t_105 w =>
              again_90 [t_105] w) <|
            pvv prog (binOp .gtr 3 i_73 j_89) w fun t_106 w =>
            cd t_106 (
              dr w fun w =>
              pvv prog (Instr.indexAt 41 data_p0 a_p1) w fun t_107 w =>
              pvv prog (Instr.indexAt 41 data_p0 j_89) w fun t_108 w =>
              bindS (vN (Instr.loadAt 3 t_107)) fun m_110 => ldv prog (Instr.loadAt 3 t_107) w fun t_109 w =>
              bindS (vN (Instr.loadAt 3 t_108)) fun m_112 => ldv prog (Instr.loadAt 3 t_108) w fun t_111 w =>
              pvv prog (Instr.indexAt 41 data_p0 j_89) w fun t_113 w =>
              efu prog (Instr.storeAt 3 t_113 t_109) w fun u_114 w =>
              pvv prog (Instr.indexAt 41 data_p0 a_p1) w fun t_115 w =>
              efu prog (Instr.storeAt 3 t_115 t_111) w fun u_116 w =>
              K (.tuple #[j_89, (.bool false)]) w) <|
            dr w fun w =>
            pvv prog (Instr.indexAt 41 data_p0 j_89) w fun t_119 w =>
            pvv prog (Instr.indexAt 41 data_p0 i_73) w fun t_120 w =>
            bindS (vN (Instr.loadAt 3 t_119)) fun m_122 => ldv prog (Instr.loadAt 3 t_119) w fun t_121 w =>
            bindS (vN (Instr.loadAt 3 t_120)) fun m_124 => ldv prog (Instr.loadAt 3 t_120) w fun t_123 w =>
            pvv prog (Instr.indexAt 41 data_p0 i_73) w fun t_125 w =>
            efu prog (Instr.storeAt 3 t_125 t_121) w fun u_126 w =>
            pvv prog (Instr.indexAt 41 data_p0 j_89) w fun t_127 w =>
            efu prog (Instr.storeAt 3 t_127 t_123) w fun u_128 w =>
            pvv prog (binOp .add 3 i_73 (.int .i64 1)) w fun t_129 w =>
            pvv prog (binOp .sub 3 j_89 (.int .i64 1)) w fun t_130 w =>
            again_72 [t_129, t_130] w) [j_71] w) [i_70] w) [t_68, t_69] w) [t_11] w) [t_10] w
theorem B104_eq (data_p0 a_p1 b_p2 pivot_p3 : Value) (w : World) (K : Value → World → Prop) : denFn prog Tryd.f104 T104 [data_p0, a_p1, b_p2, pivot_p3] w K = B104 data_p0 a_p1 b_p2 pivot_p3 w K := by kernel_rfl
theorem c104 {data_p0 a_p1 b_p2 pivot_p3 : Value} {w : World} {K : Value → World → Prop} (h : B104 data_p0 a_p1 b_p2 pivot_p3 w K) : Calls prog 104 #[data_p0, a_p1, b_p2, pivot_p3] w (Ret K) :=
  denFn_calls Tryd.func104 T104_ok (Eq.mpr (B104_eq data_p0 a_p1 b_p2 pivot_p3 w K) h)

-- 34 (*holdfast/holdfastref12.Store).Refresh
def T34 : Ann := (.seq .none (.seq (.seq .none (.seq .none (.seq (.seq .none .none) .none))) (.seq .none (.seq (.seq .none (.seq (.seq .none .none) .none)) (.seq .none (.seq (.block (.seq .none (.seq (.seq .none .none) (.seq .none (.seq (.seq .none (.seq .none (.seq .none .none))) (.seq .none (.seq (.seq .none .none) .none))))))) (.seq .none (.seq .none (.seq .none (.seq .none (.seq .none (.seq .none (.seq (.draw [.op 1 .pure, .op 2 .pure, .op 3 .pure, .op 5 .pure, .op 6 .pure, .op 0 .load, .op 4 .load, .op 7 .eff, .op 8 .eff, .op 9 .eff, .op 10 .pure]) .none)))))))))))))
theorem T34_ok : chkFn prog Tryd.f34 T34 = true := by kernel_rfl
def B34 (s_p0 family_p1 number_p2 now_p3 : Value) (w : World) (K : Value → World → Prop) : Prop :=
  efv prog (Instr.alloc 27 true (.tuple #[])) w fun t_0 w =>
  efv prog (Instr.alloc 29 true (.tuple #[])) w fun t_1 w =>
  Calls prog 64 #[s_p0, now_p3] w (Ret fun t_2 w =>
  pvv prog (oEq .neq 30 (.tmp 19) (.const (.int .i64 0)) t_2 (.int .i64 0)) w fun t_3 w =>
  cd t_3 (
    pvv prog (Instr.build 27 #[]) w fun t_4 w =>
    pvv prog (Instr.build 29 #[]) w fun t_5 w =>
    efu prog (Instr.storeAt 27 t_0 t_4) w fun u_6 w =>
    efu prog (Instr.storeAt 29 t_1 t_5) w fun u_7 w =>
    ∃ r_8, (do loadVar 27 (← asAddr t_0)).run prog w = .ok r_8 w ∧ ∃ r_9, (do loadVar 29 (← asAddr t_1)).run prog w = .ok r_9 w ∧ K (.tuple #[r_8, r_9, t_2]) w) <|
  Calls prog 65 #[s_p0, family_p1] w (Ret fun t_10 w =>
  pvv prog (Instr.extract t_10 0) w fun t_11 w =>
  pvv prog (Instr.extract t_10 1) w fun t_12 w =>
  pvv prog (oEq .neq 30 (.tmp 30) (.const (.int .i64 0)) t_12 (.int .i64 0)) w fun t_13 w =>
  cd t_13 (
    pvv prog (Instr.build 27 #[]) w fun t_14 w =>
    pvv prog (Instr.build 29 #[]) w fun t_15 w =>
    efu prog (Instr.storeAt 27 t_0 t_14) w fun u_16 w =>
    efu prog (Instr.storeAt 29 t_1 t_15) w fun u_17 w =>
    ∃ r_18, (do loadVar 27 (← asAddr t_0)).run prog w = .ok r_18 w ∧ ∃ r_19, (do loadVar 29 (← asAddr t_1)).run prog w = .ok r_19 w ∧ K (.tuple #[r_18, r_19, t_12]) w) <|
  pv prog (oNil s_p0) w fun t_20 w =>
  pvv prog (Instr.fieldAt 83 t_20 3) w fun t_21 w =>
  ldv prog (Instr.loadAt 33 t_21) w fun t_22 w =>
  pvv prog (Instr.indexAt 33 t_22 t_11) w fun t_23 w =>
  ldv prog (Instr.loadAt 27 t_23) w fun t_24 w =>
  efv prog (Instr.alloc 27 true (.tuple #[])) w fun f_25 w =>
  efu prog (Instr.storeAt 27 f_25 t_24) w fun u_26 w =>
  pvv prog (Instr.fieldAt 27 f_25 4) w fun t_27 w =>
  ldv prog (Instr.loadAt 3 t_27) w fun t_28 w =>
  pvv prog (binOp .gtr 3 number_p2 t_28) w fun t_29 w =>
  gate (some (t_29, false)) (fun K => K number_p2 w) w fun t_30 w =>
  gate (some (t_29, false)) (fun K => pvv prog (binOp .lss 3 t_30 (.int .i64 1)) w K) w fun t_31 w =>
  pv prog (oPick t_29 (.bool true) t_31) w fun t_32 w =>
  cd t_32 (
    pvv prog (Instr.build 27 #[]) w fun t_33 w =>
    pvv prog (Instr.build 29 #[]) w fun t_34 w =>
    efu prog (Instr.storeAt 27 t_0 t_33) w fun u_35 w =>
    efu prog (Instr.storeAt 29 t_1 t_34) w fun u_36 w =>
    ∃ r_37, (do loadVar 27 (← asAddr t_0)).run prog w = .ok r_37 w ∧ ∃ r_38, (do loadVar 29 (← asAddr t_1)).run prog w = .ok r_38 w ∧ K (.tuple #[r_37, r_38, (.int .i64 10)]) w) <|
  pvv prog (Instr.fieldAt 27 f_25 4) w fun t_39 w =>
  ldv prog (Instr.loadAt 3 t_39) w fun t_40 w =>
  pvv prog (binOp .lss 3 number_p2 t_40) w fun t_41 w =>
  cd t_41 (
    Calls prog 66 #[s_p0, family_p1] w (Ret fun t_42 w =>
    pv prog (oNil s_p0) w fun t_43 w =>
    pvv prog (Instr.fieldAt 83 t_43 2) w fun t_44 w =>
    efu prog (Instr.storeAt 3 t_44 now_p3) w fun u_45 w =>
    pvv prog (Instr.build 27 #[]) w fun t_46 w =>
    pvv prog (Instr.build 29 #[]) w fun t_47 w =>
    efu prog (Instr.storeAt 27 t_0 t_46) w fun u_48 w =>
    efu prog (Instr.storeAt 29 t_1 t_47) w fun u_49 w =>
    ∃ r_50, (do loadVar 27 (← asAddr t_0)).run prog w = .ok r_50 w ∧ ∃ r_51, (do loadVar 29 (← asAddr t_1)).run prog w = .ok r_51 w ∧ K (.tuple #[r_50, r_51, (.int .i64 13)]) w)) <|
  pv prog (oNil s_p0) w fun t_52 w =>
  pvv prog (Instr.fieldAt 83 t_52 1) w fun t_53 w =>
  ldv prog (Instr.loadAt 3 t_53) w fun t_54 w =>
  pvv prog (binOp .gtr 3 t_54 (.int .i64 1099511627776)) w fun t_55 w =>
  gate (some (t_55, false)) (fun K => pvv prog (Instr.fieldAt 27 f_25 4) w K) w fun t_56 w =>
  gate (some (t_55, false)) (fun K => ldv prog (Instr.loadAt 3 t_56) w K) w fun t_57 w =>
  gate (some (t_55, false)) (fun K => pvv prog (binOp .geq 3 t_57 (.int .i64 1099511627776)) w K) w fun t_58 w =>
  pv prog (oPick t_55 (.bool true) t_58) w fun t_59 w =>
  cd t_59 (
    pvv prog (Instr.build 27 #[]) w fun t_60 w =>
    pvv prog (Instr.build 29 #[]) w fun t_61 w =>
    efu prog (Instr.storeAt 27 t_0 t_60) w fun u_62 w =>
    efu prog (Instr.storeAt 29 t_1 t_61) w fun u_63 w =>
    ∃ r_64, (do loadVar 27 (← asAddr t_0)).run prog w = .ok r_64 w ∧ ∃ r_65, (do loadVar 29 (← asAddr t_1)).run prog w = .ok r_65 w ∧ K (.tuple #[r_64, r_65, (.int .i64 7)]) w) <|
  pvv prog (Instr.fieldAt 27 f_25 4) w fun t_66 w =>
  ldv prog (Instr.loadAt 3 t_66) w fun t_67 w =>
  pvv prog (binOp .add 3 t_67 (.int .i64 1)) w fun t_68 w =>
  pvv prog (Instr.fieldAt 27 f_25 4) w fun t_69 w =>
  efu prog (Instr.storeAt 3 t_69 t_68) w fun u_70 w =>
  pv prog (oNil s_p0) w fun t_71 w =>
  pvv prog (Instr.fieldAt 83 t_71 2) w fun t_72 w =>
  efu prog (Instr.storeAt 3 t_72 now_p3) w fun u_73 w =>
  pv prog (oNil s_p0) w fun t_74 w =>
  pvv prog (Instr.fieldAt 83 t_74 3) w fun t_75 w =>
  ldv prog (Instr.loadAt 33 t_75) w fun t_76 w =>
  ef prog (oBi .append #[33, 33] 33 #[false, false] #[(.slice none 0 0), t_76]) w fun t_77 w =>
  ldv prog (Instr.loadAt 27 f_25) w fun t_78 w =>
  pvv prog (Instr.indexAt 33 t_77 t_11) w fun t_79 w =>
  efu prog (Instr.storeAt 27 t_79 t_78) w fun u_80 w =>
  pv prog (oNil s_p0) w fun t_81 w =>
  pvv prog (Instr.fieldAt 83 t_81 3) w fun t_82 w =>
  efu prog (Instr.storeAt 33 t_82 t_77) w fun u_83 w =>
  dr w fun w =>
  pvv prog (Instr.fieldAt 27 f_25 3) w fun t_84 w =>
  pvv prog (binOp .add 3 now_p3 (.int .i64 50)) w fun t_85 w =>
  bindS (vN (Instr.loadAt 27 f_25)) fun m_87 => ldv prog (Instr.loadAt 27 f_25) w fun t_86 w =>
  bindS (vN (Instr.loadAt 25 t_84)) fun m_89 => ldv prog (Instr.loadAt 25 t_84) w fun t_88 w =>
  Calls prog 63 #[s_p0, family_p1, t_88, t_85] w (Ret fun t_90 w => stay prog none m_87 t_86 w <| 
  efu prog (Instr.storeAt 27 t_0 t_86) w fun u_91 w => stay prog none m_89 t_88 w <| 
  efu prog (Instr.storeAt 29 t_1 t_90) w fun u_92 w =>
  ∃ r_93, (do loadVar 27 (← asAddr t_0)).run prog w = .ok r_93 w ∧ ∃ r_94, (do loadVar 29 (← asAddr t_1)).run prog w = .ok r_94 w ∧ K (.tuple #[r_93, r_94, (.int .i64 0)]) w)))
theorem B34_eq (s_p0 family_p1 number_p2 now_p3 : Value) (w : World) (K : Value → World → Prop) : denFn prog Tryd.f34 T34 [s_p0, family_p1, number_p2, now_p3] w K = B34 s_p0 family_p1 number_p2 now_p3 w K := by kernel_rfl
theorem c34 {s_p0 family_p1 number_p2 now_p3 : Value} {w : World} {K : Value → World → Prop} (h : B34 s_p0 family_p1 number_p2 now_p3 w K) : Calls prog 34 #[s_p0, family_p1, number_p2, now_p3] w (Ret K) :=
  denFn_calls Tryd.func34 T34_ok (Eq.mpr (B34_eq s_p0 family_p1 number_p2 now_p3 w K) h)

-- 103 slices.partitionEqualOrdered[int]
def T103 : Ann := (.seq .none (.seq (.draw [.op 0 .pure, .op 1 .pure, .op 2 .pure, .op 3 .pure, .op 4 .pure, .op 5 .pure, .op 6 .pure, .op 8 .pure, .op 9 .pure, .op 10 .pure, .op 7 .load, .op 11 .load, .op 12 .pure, .op 13 .eff, .op 14 .pure, .op 15 .eff]) (.seq .none (.seq (.block (.loop 9671406556917032860780032 [9, 10] (.block (.seq (.block (.loop 70368207307264 [9] (.seq (.seq (.draw [.op 0 .pure, .op 1 .pure, .op 2 .pure, .op 3 .pure, .op 4 .pure, .op 5 .pure, .op 6 .pure, .op 8 .pure, .op 9 .pure, .op 10 .pure, .op 7 .load, .op 11 .load, .op 12 .eff, .op 13 .pure, .op 14 .pure]) (.seq .none .none)) (.block .none)))) (.seq (.block (.loop 4611615649683211264 [10] (.seq (.seq (.draw [.op 0 .pure, .op 1 .pure, .op 2 .pure, .op 3 .pure, .op 4 .pure, .op 5 .pure, .op 6 .pure, .op 8 .pure, .op 9 .pure, .op 10 .pure, .op 7 .load, .op 11 .load, .op 12 .eff, .op 13 .pure]) (.seq .none .none)) (.block .none)))) (.seq (.seq .none (.seq .none .none)) (.seq (.draw [.op 0 .pure, .op 1 .pure, .op 2 .pure, .op 3 .pure, .op 4 .pure, .op 5 .pure, .op 6 .pure, .op 8 .pure, .op 9 .pure, .op 10 .pure, .op 7 .load, .op 11 .load, .op 12 .pure, .op 13 .eff, .op 14 .pure, .op 15 .eff]) (.seq .none .none)))))))) (.seq .none .none)))))
theorem T103_ok : chkFn prog Tryd.f103 T103 = true := by kernel_rfl
def B103 (data_p0 a_p1 b_p2 pivot_p3 : Value) (w : World) (K : Value → World → Prop) : Prop :=
  dr w fun w =>
  pvv prog (Instr.indexAt 41 data_p0 pivot_p3) w fun t_0 w =>
  pvv prog (Instr.indexAt 41 data_p0 a_p1) w fun t_1 w =>
  bindS (vN (Instr.loadAt 3 t_0)) fun m_3 => ldv prog (Instr.loadAt 3 t_0) w fun t_2 w =>
  bindS (vN (Instr.loadAt 3 t_1)) fun m_5 => ldv prog (Instr.loadAt 3 t_1) w fun t_4 w =>
  pvv prog (Instr.indexAt 41 data_p0 a_p1) w fun t_6 w =>
  efu prog (Instr.storeAt 3 t_6 t_2) w fun u_7 w =>
  pvv prog (Instr.indexAt 41 data_p0 pivot_p3) w fun t_8 w =>
  efu prog (Instr.storeAt 3 t_8 t_4) w fun u_9 w =>
  pvv prog (binOp .add 3 a_p1 (.int .i64 1)) w fun t_10 w =>
  pvv prog (binOp .sub 3 b_p2 (.int .i64 1)) w fun t_11 w =>
  lp (fun σ w again_14 => pop σ fun i_12 σ => pop σ fun j_13 σ => fin σ <|
    lp (fun σ w again_16 => pop σ fun i_15 σ => fin σ <|
      dr w fun w =>
      pvv prog (binOp .leq 3 i_15 j_13) w fun t_17 w =>
      gate (some (t_17, true)) (fun K => K data_p0 w) w fun t_18 w =>
      gate (some (t_17, true)) (fun K => K a_p1 w) w fun t_19 w =>
      gate (some (t_17, true)) (fun K => pvv prog (Instr.indexAt 41 t_18 t_19) w K) w fun t_20 w =>
      gate (some (t_17, true)) (fun K => K data_p0 w) w fun t_21 w =>
      gate (some (t_17, true)) (fun K => K i_15 w) w fun t_22 w =>
      gate (some (t_17, true)) (fun K => pvv prog (Instr.indexAt 41 t_21 t_22) w K) w fun t_23 w =>
      bindS (vN (Instr.loadAt 3 t_20)) fun m_25 => gate (some (t_17, true)) (fun K => ldv prog (Instr.loadAt 3 t_20) w K) w fun t_24 w =>
      bindS (vN (Instr.loadAt 3 t_23)) fun m_27 => gate (some (t_17, true)) (fun K => ldv prog (Instr.loadAt 3 t_23) w K) w fun t_26 w =>
      gate (some (t_17, true)) (fun K => Calls prog 102 #[t_24, t_26] w (Ret fun s_64 w => K s_64 w)) w fun t_28 w =>
      gate (some (t_17, true)) (fun K => pvv prog (Op.unary .not t_28) w K) w fun t_29 w =>
      pv prog (oPick t_17 t_29 (.bool false)) w fun t_30 w =>
      cd t_30 (
        pvv prog (binOp .add 3 i_15 (.int .i64 1)) w fun t_31 w =>
        again_16 [t_31] w) <|
      lp (fun σ w again_33 => pop σ fun j_32 σ => fin σ <|
        dr w fun w =>
        pvv prog (binOp .leq 3 i_15 j_32) w fun t_34 w =>
        gate (some (t_34, true)) (fun K => K data_p0 w) w fun t_35 w =>
        gate (some (t_34, true)) (fun K => K a_p1 w) w fun t_36 w =>
        gate (some (t_34, true)) (fun K => pvv prog (Instr.indexAt 41 t_35 t_36) w K) w fun t_37 w =>
        gate (some (t_34, true)) (fun K => K data_p0 w) w fun t_38 w =>
        gate (some (t_34, true)) (fun K => K j_32 w) w fun t_39 w =>
        gate (some (t_34, true)) (fun K => pvv prog (Instr.indexAt 41 t_38 t_39) w K) w fun t_40 w =>
        bindS (vN (Instr.loadAt 3 t_37)) fun m_42 => gate (some (t_34, true)) (fun K => ldv prog (Instr.loadAt 3 t_37) w K) w fun t_41 w =>
        bindS (vN (Instr.loadAt 3 t_40)) fun m_44 => gate (some (t_34, true)) (fun K => ldv prog (Instr.loadAt 3 t_40) w K) w fun t_43 w =>
        gate (some (t_34, true)) (fun K => Calls prog 102 #[t_41, t_43] w (Ret fun s_63 w => K s_63 w)) w fun t_45 w =>
        pv prog (oPick t_34 t_45 (.bool false)) w fun t_46 w =>
        cd t_46 (
          pvv prog (binOp .sub 3 j_32 (.int .i64 1)) w fun t_47 w =>
          again_33 [t_47] w) <|
        pvv prog (binOp .gtr 3 i_15 j_32) w fun t_48 w =>
        cd t_48 (
          K i_15 w) <|
        dr w fun w =>
        pvv prog (Instr.indexAt 41 data_p0 j_32) w fun t_49 w =>
        pvv prog (Instr.indexAt 41 data_p0 i_15) w fun t_50 w =>
        bindS (vN (Instr.loadAt 3 t_49)) fun m_52 => ldv prog (Instr.loadAt 3 t_49) w fun t_51 w =>
        bindS (vN (Instr.loadAt 3 t_50)) fun m_54 => ldv prog (Instr.loadAt 3 t_50) w fun t_53 w =>
        pvv prog (Instr.indexAt 41 data_p0 i_15) w fun t_55 w =>
        efu prog (Instr.storeAt 3 t_55 t_51) w fun u_56 w =>
        pvv prog (Instr.indexAt 41 data_p0 j_32) w fun t_57 w =>
        efu prog (Instr.storeAt 3 t_57 t_53) w fun u_58 w =>
        pvv prog (binOp .add 3 i_15 (.int .i64 1)) w fun t_59 w =>
        pvv prog (binOp .sub 3 j_32 (.int .i64 1)) w fun t_60 w =>
        again_14 [t_59, t_60] w) [j_13] w) [i_12] w) [t_10, t_11] w
theorem B103_eq (data_p0 a_p1 b_p2 pivot_p3 : Value) (w : World) (K : Value → World → Prop) : denFn prog Tryd.f103 T103 [data_p0, a_p1, b_p2, pivot_p3] w K = B103 data_p0 a_p1 b_p2 pivot_p3 w K := by kernel_rfl
theorem c103 {data_p0 a_p1 b_p2 pivot_p3 : Value} {w : World} {K : Value → World → Prop} (h : B103 data_p0 a_p1 b_p2 pivot_p3 w K) : Calls prog 103 #[data_p0, a_p1, b_p2, pivot_p3] w (Ret K) :=
  denFn_calls Tryd.func103 T103_ok (Eq.mpr (B103_eq data_p0 a_p1 b_p2 pivot_p3 w K) h)

-- 8 holdfast/holdfastlaw12.live
def T8 : Ann := (.seq .none (.seq .none (.seq (.seq .none (.seq (.seq .none .none) .none)) (.seq .none (.seq .none (.seq .none (.seq .none (.seq .none .none))))))))
theorem T8_ok : chkFn prog Tryd.f8 T8 = true := by kernel_rfl
def B8 (w : World) (K : Value → World → Prop) : Prop :=
  Calls prog 7 #[] w (Ret fun t_0 w =>
  pvv prog (oEq .eql 22 (.tmp 14) (.const (.pointer none)) t_0 (.pointer none)) w fun t_1 w =>
  cd t_1 (
    K (.bool false) w) <|
  Calls prog 9 #[t_0, (.int .i64 1), (.string ⟨#[99]⟩), (.int .u8 3), (.int .i64 0)] w (Ret fun t_2 w =>
  pvv prog (Instr.extract t_2 0) w fun t_3 w =>
  pvv prog (Instr.extract t_2 1) w fun t_4 w =>
  pvv prog (Instr.extract t_2 2) w fun t_5 w =>
  efv prog (Instr.alloc 27 true (.tuple #[])) w fun f_6 w =>
  efv prog (Instr.alloc 29 true (.tuple #[])) w fun t_7 w =>
  efu prog (Instr.storeAt 27 f_6 t_3) w fun u_8 w =>
  efu prog (Instr.storeAt 29 t_7 t_4) w fun u_9 w =>
  Calls prog 23 #[t_0, (.int .i64 1), (.int .i64 1), (.int .i64 10)] w (Ret fun t_10 w =>
  pvv prog (Instr.extract t_10 0) w fun t_11 w =>
  pvv prog (Instr.extract t_10 1) w fun t_12 w =>
  pvv prog (Instr.extract t_10 2) w fun t_13 w =>
  efv prog (Instr.alloc 27 true (.tuple #[])) w fun g_14 w =>
  efv prog (Instr.alloc 29 true (.tuple #[])) w fun u_15 w =>
  efu prog (Instr.storeAt 27 g_14 t_11) w fun u_16 w =>
  efu prog (Instr.storeAt 29 u_15 t_12) w fun u_17 w =>
  Calls prog 23 #[t_0, (.int .i64 1), (.int .i64 1), (.int .i64 11)] w (Ret fun t_18 w =>
  pvv prog (Instr.extract t_18 0) w fun t_19 w =>
  pvv prog (Instr.extract t_18 1) w fun t_20 w =>
  pvv prog (Instr.extract t_18 2) w fun t_21 w =>
  efv prog (Instr.alloc 27 true (.tuple #[])) w fun t_22 w =>
  efv prog (Instr.alloc 29 true (.tuple #[])) w fun t_23 w =>
  efu prog (Instr.storeAt 27 t_22 t_19) w fun u_24 w =>
  efu prog (Instr.storeAt 29 t_23 t_20) w fun u_25 w =>
  Calls prog 14 #[t_0, (.int .i64 2), (.int .i64 11)] w (Ret fun t_26 w =>
  pvv prog (Instr.extract t_26 0) w fun t_27 w =>
  pvv prog (Instr.extract t_26 1) w fun t_28 w =>
  efv prog (Instr.alloc 29 true (.tuple #[])) w fun t_29 w =>
  efu prog (Instr.storeAt 29 t_29 t_27) w fun u_30 w =>
  pvv prog (oEq .eql 30 (.tmp 39) (.const (.int .i64 0)) t_5 (.int .i64 0)) w fun t_31 w =>
  gate (some (t_31, true)) (fun K => pvv prog (Instr.fieldAt 27 f_6 0) w K) w fun t_32 w =>
  gate (some (t_31, true)) (fun K => ldv prog (Instr.loadAt 3 t_32) w K) w fun t_33 w =>
  gate (some (t_31, true)) (fun K => pvv prog (oEq .eql 3 (.tmp 43) (.const (.int .i64 1)) t_33 (.int .i64 1)) w K) w fun t_34 w =>
  pv prog (oPick t_31 t_34 (.bool false)) w fun t_35 w =>
  gate (some (t_35, true)) (fun K => pvv prog (Instr.fieldAt 29 t_7 3) w K) w fun t_36 w =>
  gate (some (t_35, true)) (fun K => ldv prog (Instr.loadAt 3 t_36) w K) w fun t_37 w =>
  gate (some (t_35, true)) (fun K => pvv prog (oEq .eql 3 (.tmp 48) (.const (.int .i64 50)) t_37 (.int .i64 50)) w K) w fun t_38 w =>
  pv prog (oPick t_35 t_38 (.bool false)) w fun t_39 w =>
  gate (some (t_39, true)) (fun K => K t_13 w) w fun t_40 w =>
  gate (some (t_39, true)) (fun K => pvv prog (oEq .eql 30 (.tmp 52) (.const (.int .i64 0)) t_40 (.int .i64 0)) w K) w fun t_41 w =>
  pv prog (oPick t_39 t_41 (.bool false)) w fun t_42 w =>
  gate (some (t_42, true)) (fun K => pvv prog (Instr.fieldAt 27 g_14 4) w K) w fun t_43 w =>
  gate (some (t_42, true)) (fun K => ldv prog (Instr.loadAt 3 t_43) w K) w fun t_44 w =>
  gate (some (t_42, true)) (fun K => pvv prog (oEq .eql 3 (.tmp 57) (.const (.int .i64 2)) t_44 (.int .i64 2)) w K) w fun t_45 w =>
  pv prog (oPick t_42 t_45 (.bool false)) w fun t_46 w =>
  gate (some (t_46, true)) (fun K => pvv prog (Instr.fieldAt 29 u_15 0) w K) w fun t_47 w =>
  gate (some (t_46, true)) (fun K => ldv prog (Instr.loadAt 3 t_47) w K) w fun t_48 w =>
  gate (some (t_46, true)) (fun K => pvv prog (oEq .eql 3 (.tmp 62) (.const (.int .i64 2)) t_48 (.int .i64 2)) w K) w fun t_49 w =>
  pv prog (oPick t_46 t_49 (.bool false)) w fun t_50 w =>
  gate (some (t_50, true)) (fun K => K t_21 w) w fun t_51 w =>
  gate (some (t_50, true)) (fun K => pvv prog (oEq .eql 30 (.tmp 66) (.const (.int .i64 13)) t_51 (.int .i64 13)) w K) w fun t_52 w =>
  pv prog (oPick t_50 t_52 (.bool false)) w fun t_53 w =>
  gate (some (t_53, true)) (fun K => K t_28 w) w fun t_54 w =>
  gate (some (t_53, true)) (fun K => pvv prog (oEq .eql 30 (.tmp 70) (.const (.int .i64 12)) t_54 (.int .i64 12)) w K) w fun t_55 w =>
  pv prog (oPick t_53 t_55 (.bool false)) w fun t_56 w =>
  K t_56 w)))))
theorem B8_eq (w : World) (K : Value → World → Prop) : denFn prog Tryd.f8 T8 [] w K = B8  w K := by kernel_rfl
theorem c8 {w : World} {K : Value → World → Prop} (h : B8  w K) : Calls prog 8 #[] w (Ret K) :=
  denFn_calls Tryd.func8 T8_ok (Eq.mpr (B8_eq  w K) h)

-- 66 (*holdfast/holdfastref12.Store).drop
def T66 : Ann := (.seq .none (.seq (.seq .none (.block (.loop 137438953264 [4, 5] (.seq (.seq .none (.seq .none .none)) (.meet 137438822416 [4] (.block (.seq .none (.seq .none .none))) .none))))) (.seq .none (.seq (.seq .none (.block (.loop 73786976157399253184 [6, 7] (.seq (.seq .none (.seq .none .none)) (.meet 73786905926094028864 [6] (.block (.seq .none (.seq .none .none))) .none))))) .none))))
theorem T66_ok : chkFn prog Tryd.f66 T66 = true := by kernel_rfl
def B66 (s_p0 id_p1 : Value) (w : World) (K : Value → World → Prop) : Prop :=
  lp (fun σ w again_2 => pop σ fun f_0 σ => pop σ fun i_1 σ => fin σ <|
    pv prog (oNil s_p0) w fun t_3 w =>
    pvv prog (Instr.fieldAt 83 t_3 3) w fun t_4 w =>
    ldv prog (Instr.loadAt 33 t_4) w fun t_5 w =>
    pv prog (oBi .len #[33] 3 #[false] #[t_5]) w fun t_6 w =>
    pvv prog (binOp .lss 3 i_1 t_6) w fun t_7 w =>
    cd t_7 (
      jn (fun σ w => pop σ fun f_8 σ => fin σ <|
        pvv prog (binOp .add 3 i_1 (.int .i64 1)) w fun t_9 w =>
        again_2 [f_8, t_9] w) fun k_10 =>
      pv prog (oNil s_p0) w fun t_11 w =>
      pvv prog (Instr.fieldAt 83 t_11 3) w fun t_12 w =>
      ldv prog (Instr.loadAt 33 t_12) w fun t_13 w =>
      pvv prog (Instr.indexAt 33 t_13 i_1) w fun t_14 w =>
      pvv prog (Instr.fieldAt 27 t_14 0) w fun t_15 w =>
      ldv prog (Instr.loadAt 3 t_15) w fun t_16 w =>
      pvv prog (oEq .neq 3 (.tmp 24) (.tmp 25) t_16 id_p1) w fun t_17 w =>
      cd t_17 (
        pv prog (oNil s_p0) w fun t_18 w =>
        pvv prog (Instr.fieldAt 83 t_18 3) w fun t_19 w =>
        ldv prog (Instr.loadAt 33 t_19) w fun t_20 w =>
        pvv prog (Instr.indexAt 33 t_20 i_1) w fun t_21 w =>
        ldv prog (Instr.loadAt 27 t_21) w fun t_22 w =>
        efv prog (Instr.buildSlice 33 1 #[(0, t_22)]) w fun t_23 w =>
        ef prog (oBi .append #[33, 33] 33 #[false, false] #[f_0, t_23]) w fun t_24 w =>
        k_10 [t_24] w) <|
      k_10 [f_0] w) <|
    lp (fun σ w again_27 => pop σ fun t_25 σ => pop σ fun i_26 σ => fin σ <|
      pv prog (oNil s_p0) w fun t_28 w =>
      pvv prog (Instr.fieldAt 83 t_28 4) w fun t_29 w =>
      ldv prog (Instr.loadAt 81 t_29) w fun t_30 w =>
      pv prog (oBi .len #[81] 3 #[false] #[t_30]) w fun t_31 w =>
      pvv prog (binOp .lss 3 i_26 t_31) w fun t_32 w =>
      cd t_32 (
        jn (fun σ w => pop σ fun t_33 σ => fin σ <|
          pvv prog (binOp .add 3 i_26 (.int .i64 1)) w fun t_34 w =>
          again_27 [t_33, t_34] w) fun k_35 =>
        pv prog (oNil s_p0) w fun t_36 w =>
        pvv prog (Instr.fieldAt 83 t_36 4) w fun t_37 w =>
        ldv prog (Instr.loadAt 81 t_37) w fun t_38 w =>
        pvv prog (Instr.indexAt 81 t_38 i_26) w fun t_39 w =>
        pvv prog (Instr.fieldAt 29 t_39 1) w fun t_40 w =>
        ldv prog (Instr.loadAt 3 t_40) w fun t_41 w =>
        pvv prog (oEq .neq 3 (.tmp 53) (.tmp 54) t_41 id_p1) w fun t_42 w =>
        cd t_42 (
          pv prog (oNil s_p0) w fun t_43 w =>
          pvv prog (Instr.fieldAt 83 t_43 4) w fun t_44 w =>
          ldv prog (Instr.loadAt 81 t_44) w fun t_45 w =>
          pvv prog (Instr.indexAt 81 t_45 i_26) w fun t_46 w =>
          ldv prog (Instr.loadAt 29 t_46) w fun t_47 w =>
          efv prog (Instr.buildSlice 81 1 #[(0, t_47)]) w fun t_48 w =>
          ef prog (oBi .append #[81, 81] 81 #[false, false] #[t_25, t_48]) w fun t_49 w =>
          k_35 [t_49] w) <|
        k_35 [t_25] w) <|
      pv prog (oNil s_p0) w fun t_50 w =>
      pvv prog (Instr.fieldAt 83 t_50 3) w fun t_51 w =>
      efu prog (Instr.storeAt 33 t_51 f_0) w fun u_52 w =>
      pv prog (oNil s_p0) w fun t_53 w =>
      pvv prog (Instr.fieldAt 83 t_53 4) w fun t_54 w =>
      efu prog (Instr.storeAt 81 t_54 t_25) w fun u_55 w =>
      K (.tuple #[]) w) [(.slice none 0 0), (.int .i64 0)] w) [(.slice none 0 0), (.int .i64 0)] w
theorem B66_eq (s_p0 id_p1 : Value) (w : World) (K : Value → World → Prop) : denFn prog Tryd.f66 T66 [s_p0, id_p1] w K = B66 s_p0 id_p1 w K := by kernel_rfl
theorem c66 {s_p0 id_p1 : Value} {w : World} {K : Value → World → Prop} (h : B66 s_p0 id_p1 w K) : Calls prog 66 #[s_p0, id_p1] w (Ret K) :=
  denFn_calls Tryd.func66 T66_ok (Eq.mpr (B66_eq s_p0 id_p1 w K) h)

-- 37 (*holdfast/holdfastref12.Store).Exchange
def T37 : Ann := (.seq .none (.seq .none (.seq (.block (.seq .none (.seq (.seq .none .none) (.seq .none (.seq (.seq .none .none) (.seq .none (.seq (.seq .none .none) .none))))))) (.seq .none (.seq .none .none)))))
theorem T37_ok : chkFn prog Tryd.f37 T37 = true := by kernel_rfl
def B37 (s_p0 id_p1 scopes_p2 now_p3 : Value) (w : World) (K : Value → World → Prop) : Prop :=
  efv prog (Instr.alloc 29 true (.tuple #[])) w fun t_0 w =>
  Calls prog 35 #[s_p0, id_p1, now_p3] w (Ret fun t_1 w =>
  pvv prog (Instr.extract t_1 0) w fun t_2 w =>
  pvv prog (Instr.extract t_1 1) w fun t_3 w =>
  efv prog (Instr.alloc 29 true (.tuple #[])) w fun x_4 w =>
  efu prog (Instr.storeAt 29 x_4 t_2) w fun u_5 w =>
  pvv prog (oEq .neq 30 (.tmp 20) (.const (.int .i64 0)) t_3 (.int .i64 0)) w fun t_6 w =>
  cd t_6 (
    pvv prog (Instr.build 29 #[]) w fun t_7 w =>
    efu prog (Instr.storeAt 29 t_0 t_7) w fun u_8 w =>
    ∃ r_9, (do loadVar 29 (← asAddr t_0)).run prog w = .ok r_9 w ∧ K (.tuple #[r_9, t_3]) w) <|
  pvv prog (Instr.fieldAt 29 x_4 2) w fun t_10 w =>
  ldv prog (Instr.loadAt 25 t_10) w fun t_11 w =>
  pvv prog (binOp .and 25 scopes_p2 t_11) w fun t_12 w =>
  pvv prog (oEq .neq 25 (.tmp 28) (.tmp 29) t_12 scopes_p2) w fun t_13 w =>
  cd t_13 (
    pvv prog (Instr.build 29 #[]) w fun t_14 w =>
    efu prog (Instr.storeAt 29 t_0 t_14) w fun u_15 w =>
    ∃ r_16, (do loadVar 29 (← asAddr t_0)).run prog w = .ok r_16 w ∧ K (.tuple #[r_16, (.int .i64 14)]) w) <|
  pv prog (oNil s_p0) w fun t_17 w =>
  pvv prog (Instr.fieldAt 83 t_17 1) w fun t_18 w =>
  ldv prog (Instr.loadAt 3 t_18) w fun t_19 w =>
  pvv prog (binOp .gtr 3 t_19 (.int .i64 1099511627776)) w fun t_20 w =>
  cd t_20 (
    pvv prog (Instr.build 29 #[]) w fun t_21 w =>
    efu prog (Instr.storeAt 29 t_0 t_21) w fun u_22 w =>
    ∃ r_23, (do loadVar 29 (← asAddr t_0)).run prog w = .ok r_23 w ∧ K (.tuple #[r_23, (.int .i64 7)]) w) <|
  pv prog (oNil s_p0) w fun t_24 w =>
  pvv prog (Instr.fieldAt 83 t_24 2) w fun t_25 w =>
  efu prog (Instr.storeAt 3 t_25 now_p3) w fun u_26 w =>
  pvv prog (Instr.fieldAt 29 x_4 1) w fun t_27 w =>
  ldv prog (Instr.loadAt 3 t_27) w fun t_28 w =>
  pvv prog (Instr.fieldAt 29 x_4 3) w fun t_29 w =>
  ldv prog (Instr.loadAt 3 t_29) w fun t_30 w =>
  Calls prog 63 #[s_p0, t_28, scopes_p2, t_30] w (Ret fun t_31 w =>
  efu prog (Instr.storeAt 29 t_0 t_31) w fun u_32 w =>
  ∃ r_33, (do loadVar 29 (← asAddr t_0)).run prog w = .ok r_33 w ∧ K (.tuple #[r_33, (.int .i64 0)]) w))
theorem B37_eq (s_p0 id_p1 scopes_p2 now_p3 : Value) (w : World) (K : Value → World → Prop) : denFn prog Tryd.f37 T37 [s_p0, id_p1, scopes_p2, now_p3] w K = B37 s_p0 id_p1 scopes_p2 now_p3 w K := by kernel_rfl
theorem c37 {s_p0 id_p1 scopes_p2 now_p3 : Value} {w : World} {K : Value → World → Prop} (h : B37 s_p0 id_p1 scopes_p2 now_p3 w K) : Calls prog 37 #[s_p0, id_p1, scopes_p2, now_p3] w (Ret K) :=
  denFn_calls Tryd.func37 T37_ok (Eq.mpr (B37_eq s_p0 id_p1 scopes_p2 now_p3 w K) h)

-- 62 (*holdfast/holdfastref12.Store).Families
def T62 : Ann := (.seq .none (.seq .none (.seq (.seq .none (.block (.loop 1099511627744 [5, 6] (.seq (.seq .none (.seq .none .none)) (.meet 1099510579232 [5] (.block (.seq .none (.seq .none .none))) .none))))) (.seq .none .none))))
theorem T62_ok : chkFn prog Tryd.f62 T62 = true := by kernel_rfl
def B62 (s_p0 session_p1 : Value) (w : World) (K : Value → World → Prop) : Prop :=
  lp (fun σ w again_2 => pop σ fun out_0 σ => pop σ fun i_1 σ => fin σ <|
    pvv prog (oEq .neq 38 (.tmp 7) (.const (.pointer none)) s_p0 (.pointer none)) w fun t_3 w =>
    gate (some (t_3, true)) (fun K => K i_1 w) w fun t_4 w =>
    gate (some (t_3, true)) (fun K => K s_p0 w) w fun t_5 w =>
    gate (some (t_3, true)) (fun K => pv prog (oNil t_5) w K) w fun t_6 w =>
    gate (some (t_3, true)) (fun K => pvv prog (Instr.fieldAt 83 t_6 3) w K) w fun t_7 w =>
    gate (some (t_3, true)) (fun K => ldv prog (Instr.loadAt 33 t_7) w K) w fun t_8 w =>
    gate (some (t_3, true)) (fun K => pv prog (oBi .len #[33] 3 #[false] #[t_8]) w K) w fun t_9 w =>
    gate (some (t_3, true)) (fun K => pvv prog (binOp .lss 3 t_4 t_9) w K) w fun t_10 w =>
    pv prog (oPick t_3 t_10 (.bool false)) w fun t_11 w =>
    cd t_11 (
      jn (fun σ w => pop σ fun out_12 σ => fin σ <|
        pvv prog (binOp .add 3 i_1 (.int .i64 1)) w fun t_13 w =>
        again_2 [out_12, t_13] w) fun k_14 =>
      pv prog (oNil s_p0) w fun t_15 w =>
      pvv prog (Instr.fieldAt 83 t_15 3) w fun t_16 w =>
      ldv prog (Instr.loadAt 33 t_16) w fun t_17 w =>
      pvv prog (Instr.indexAt 33 t_17 i_1) w fun t_18 w =>
      pvv prog (Instr.fieldAt 27 t_18 1) w fun t_19 w =>
      ldv prog (Instr.loadAt 3 t_19) w fun t_20 w =>
      pvv prog (oEq .eql 3 (.tmp 27) (.tmp 28) t_20 session_p1) w fun t_21 w =>
      cd t_21 (
        pv prog (oNil s_p0) w fun t_22 w =>
        pvv prog (Instr.fieldAt 83 t_22 3) w fun t_23 w =>
        ldv prog (Instr.loadAt 33 t_23) w fun t_24 w =>
        pvv prog (Instr.indexAt 33 t_24 i_1) w fun t_25 w =>
        ldv prog (Instr.loadAt 27 t_25) w fun t_26 w =>
        efv prog (Instr.buildSlice 33 1 #[(0, t_26)]) w fun t_27 w =>
        ef prog (oBi .append #[33, 33] 33 #[false, false] #[out_0, t_27]) w fun t_28 w =>
        k_14 [t_28] w) <|
      k_14 [out_0] w) <|
    K out_0 w) [(.slice none 0 0), (.int .i64 0)] w
theorem B62_eq (s_p0 session_p1 : Value) (w : World) (K : Value → World → Prop) : denFn prog Tryd.f62 T62 [s_p0, session_p1] w K = B62 s_p0 session_p1 w K := by kernel_rfl
theorem c62 {s_p0 session_p1 : Value} {w : World} {K : Value → World → Prop} (h : B62 s_p0 session_p1 w K) : Calls prog 62 #[s_p0, session_p1] w (Ret K) :=
  denFn_calls Tryd.func62 T62_ok (Eq.mpr (B62_eq s_p0 session_p1 w K) h)

-- 99 slices.choosePivotOrdered[int]
def T99 : Ann := (.seq .none (.seq .none (.seq .none (.seq .none (.seq .none (.seq .none (.meet 562947805944832 [11] (.seq .none (.seq (.meet 17583596116992 [10, 11, 12] (.seq .none (.seq (.seq .none (.seq .none .none)) .none)) .none) .none)) (.seq .none (.block (.seq .none (.seq (.seq .none .none) (.seq .none (.seq (.seq .none .none) (.seq .none .none))))))))))))))
theorem T99_ok : chkFn prog Tryd.f99 T99 = true := by kernel_rfl
def B99 (data_p0 a_p1 b_p2 : Value) (w : World) (K : Value → World → Prop) : Prop :=
  pvv prog (binOp .sub 3 b_p2 a_p1) w fun t_0 w =>
  efv prog (Instr.alloc 3 true (.tuple #[])) w fun swaps_1 w =>
  pvv prog (binOp .quo 3 t_0 (.int .i64 4)) w fun t_2 w =>
  pvv prog (binOp .mul 3 t_2 (.int .i64 1)) w fun t_3 w =>
  pvv prog (binOp .add 3 a_p1 t_3) w fun t_4 w =>
  pvv prog (binOp .quo 3 t_0 (.int .i64 4)) w fun t_5 w =>
  pvv prog (binOp .mul 3 t_5 (.int .i64 2)) w fun t_6 w =>
  pvv prog (binOp .add 3 a_p1 t_6) w fun t_7 w =>
  pvv prog (binOp .quo 3 t_0 (.int .i64 4)) w fun t_8 w =>
  pvv prog (binOp .mul 3 t_8 (.int .i64 3)) w fun t_9 w =>
  pvv prog (binOp .add 3 a_p1 t_9) w fun t_10 w =>
  jn (fun σ w => pop σ fun j_11 σ => fin σ <|
    ldv prog (Instr.loadAt 3 swaps_1) w fun t_12 w =>
    pvv prog (oEq .eql 3 (.tmp 49) (.const (.int .i64 0)) t_12 (.int .i64 0)) w fun t_13 w =>
    cd t_13 (
      K (.tuple #[j_11, (.int .i64 1)]) w) <|
    pvv prog (oEq .eql 3 (.tmp 49) (.const (.int .i64 12)) t_12 (.int .i64 12)) w fun t_14 w =>
    cd t_14 (
      K (.tuple #[j_11, (.int .i64 2)]) w) <|
    K (.tuple #[j_11, (.int .i64 0)]) w) fun k_15 =>
  pvv prog (binOp .geq 3 t_0 (.int .i64 8)) w fun t_16 w =>
  cd t_16 (
    jn (fun σ w => pop σ fun i_17 σ => pop σ fun j_18 σ => pop σ fun k_19 σ => fin σ <|
      Calls prog 115 #[data_p0, i_17, j_18, k_19, swaps_1] w (Ret fun t_20 w =>
      k_15 [t_20] w)) fun k_21 =>
    pvv prog (binOp .geq 3 t_0 (.int .i64 50)) w fun t_22 w =>
    cd t_22 (
      Calls prog 114 #[data_p0, t_4, swaps_1] w (Ret fun t_23 w =>
      Calls prog 114 #[data_p0, t_7, swaps_1] w (Ret fun t_24 w =>
      Calls prog 114 #[data_p0, t_10, swaps_1] w (Ret fun t_25 w =>
      k_21 [t_23, t_24, t_25] w)))) <|
    k_21 [t_4, t_7, t_10] w) <|
  k_15 [t_7] w
theorem B99_eq (data_p0 a_p1 b_p2 : Value) (w : World) (K : Value → World → Prop) : denFn prog Tryd.f99 T99 [data_p0, a_p1, b_p2] w K = B99 data_p0 a_p1 b_p2 w K := by kernel_rfl
theorem c99 {data_p0 a_p1 b_p2 : Value} {w : World} {K : Value → World → Prop} (h : B99 data_p0 a_p1 b_p2 w K) : Calls prog 99 #[data_p0, a_p1, b_p2] w (Ret K) :=
  denFn_calls Tryd.func99 T99_ok (Eq.mpr (B99_eq data_p0 a_p1 b_p2 w K) h)

-- 56 strings.Trim
def T56 : Ann := (.seq .none (.seq (.seq .none (.seq (.seq .none .none) .none)) (.seq (.seq .none (.seq (.seq (.draw [.op 0 .pure, .op 1 .pure, .op 2 .pure, .op 4 .pure, .op 5 .pure, .op 3 .eff, .op 6 .eff, .op 7 .pure]) .none) .none)) (.seq (.seq .none (.seq .none (.seq (.seq .none .none) .none))) (.seq .none .none)))))
theorem T56_ok : chkFn prog Tryd.f56 T56 = true := by kernel_rfl
def B56 (s_p0 cutset_p1 : Value) (w : World) (K : Value → World → Prop) : Prop :=
  pvv prog (oEq .eql 9 (.tmp 7) (.const (.string ⟨#[]⟩)) s_p0 (.string ⟨#[]⟩)) w fun t_0 w =>
  gate (some (t_0, false)) (fun K => K cutset_p1 w) w fun t_1 w =>
  gate (some (t_0, false)) (fun K => pvv prog (oEq .eql 9 (.tmp 10) (.const (.string ⟨#[]⟩)) t_1 (.string ⟨#[]⟩)) w K) w fun t_2 w =>
  pv prog (oPick t_0 (.bool true) t_2) w fun t_3 w =>
  cd t_3 (
    K s_p0 w) <|
  pv prog (oBi .len #[9] 3 #[false] #[cutset_p1]) w fun t_4 w =>
  pvv prog (oEq .eql 3 (.tmp 15) (.const (.int .i64 1)) t_4 (.int .i64 1)) w fun t_5 w =>
  gate (some (t_5, true)) (fun K => K cutset_p1 w) w fun t_6 w =>
  gate (some (t_5, true)) (fun K => pvv prog (Instr.index 9 t_6 (.int .i64 0)) w K) w fun t_7 w =>
  gate (some (t_5, true)) (fun K => pvv prog (binOp .lss 5 t_7 (.int .u8 128)) w K) w fun t_8 w =>
  pv prog (oPick t_5 t_8 (.bool false)) w fun t_9 w =>
  cd t_9 (
    dr w fun w =>
    pvv prog (Instr.index 9 cutset_p1 (.int .i64 0)) w fun t_10 w =>
    pvv prog (Instr.index 9 cutset_p1 (.int .i64 0)) w fun t_11 w =>
    Calls prog 75 #[s_p0, t_10] w (Ret fun t_12 w =>
    Calls prog 74 #[t_12, t_11] w (Ret fun t_13 w =>
    K t_13 w))) <|
  Calls prog 76 #[cutset_p1] w (Ret fun t_16 w =>
  pvv prog (Instr.extract t_16 0) w fun t_17 w =>
  pvv prog (Instr.extract t_16 1) w fun t_18 w =>
  efv prog (Instr.alloc 119 true (.tuple #[])) w fun as_19 w =>
  efu prog (Instr.storeAt 119 as_19 t_17) w fun u_20 w =>
  cd t_18 (
    Calls prog 78 #[s_p0, as_19] w (Ret fun t_21 w =>
    Calls prog 77 #[t_21, as_19] w (Ret fun t_22 w =>
    K t_22 w))) <|
  Calls prog 80 #[s_p0, cutset_p1] w (Ret fun t_23 w =>
  Calls prog 79 #[t_23, cutset_p1] w (Ret fun t_24 w =>
  K t_24 w)))
theorem B56_eq (s_p0 cutset_p1 : Value) (w : World) (K : Value → World → Prop) : denFn prog Tryd.f56 T56 [s_p0, cutset_p1] w K = B56 s_p0 cutset_p1 w K := by kernel_rfl
theorem c56 {s_p0 cutset_p1 : Value} {w : World} {K : Value → World → Prop} (h : B56 s_p0 cutset_p1 w K) : Calls prog 56 #[s_p0, cutset_p1] w (Ret K) :=
  denFn_calls Tryd.func56 T56_ok (Eq.mpr (B56_eq s_p0 cutset_p1 w K) h)

-- 22 (*holdfast/session.Table).Get
def T22 : Ann := (.seq .none (.seq (.seq .none (.seq .none (.seq (.seq .none .none) .none))) (.seq .none (.seq (.seq .none (.seq (.seq .none .none) .none)) (.seq .none .none)))))
theorem T22_ok : chkFn prog Tryd.f22 T22 = true := by kernel_rfl
def B22 (t_p0 id_p1 now_p2 : Value) (w : World) (K : Value → World → Prop) : Prop :=
  efv prog (Instr.alloc 59 true (.tuple #[])) w fun t_0 w =>
  Calls prog 46 #[t_p0, now_p2] w (Ret fun t_1 w =>
  pvv prog (oEq .neq 30 (.tmp 14) (.const (.int .i64 0)) t_1 (.int .i64 0)) w fun t_2 w =>
  cd t_2 (
    pvv prog (Instr.build 59 #[]) w fun t_3 w =>
    efu prog (Instr.storeAt 59 t_0 t_3) w fun u_4 w =>
    ∃ r_5, (do loadVar 59 (← asAddr t_0)).run prog w = .ok r_5 w ∧ K (.tuple #[r_5, t_1]) w) <|
  Calls prog 55 #[t_p0, id_p1] w (Ret fun t_6 w =>
  pvv prog (Instr.extract t_6 0) w fun t_7 w =>
  pvv prog (Instr.extract t_6 1) w fun t_8 w =>
  efv prog (Instr.alloc 59 true (.tuple #[])) w fun s_9 w =>
  efu prog (Instr.storeAt 59 s_9 t_7) w fun u_10 w =>
  pvv prog (oEq .eql 30 (.tmp 24) (.const (.int .i64 0)) t_8 (.int .i64 0)) w fun t_11 w =>
  gate (some (t_11, true)) (fun K => K now_p2 w) w fun t_12 w =>
  gate (some (t_11, true)) (fun K => ldv prog (Instr.loadAt 59 s_9) w K) w fun t_13 w =>
  gate (some (t_11, true)) (fun K => Calls prog 50 #[t_13] w (Ret K)) w fun t_14 w =>
  gate (some (t_11, true)) (fun K => pvv prog (binOp .geq 3 t_12 t_14) w K) w fun t_15 w =>
  pv prog (oPick t_11 t_15 (.bool false)) w fun t_16 w =>
  cd t_16 (
    pvv prog (Instr.build 59 #[]) w fun t_17 w =>
    efu prog (Instr.storeAt 59 t_0 t_17) w fun u_18 w =>
    ∃ r_19, (do loadVar 59 (← asAddr t_0)).run prog w = .ok r_19 w ∧ K (.tuple #[r_19, (.int .i64 12)]) w) <|
  ldv prog (Instr.loadAt 59 s_9) w fun t_20 w =>
  efu prog (Instr.storeAt 59 t_0 t_20) w fun u_21 w =>
  ∃ r_22, (do loadVar 59 (← asAddr t_0)).run prog w = .ok r_22 w ∧ K (.tuple #[r_22, t_8]) w))
theorem B22_eq (t_p0 id_p1 now_p2 : Value) (w : World) (K : Value → World → Prop) : denFn prog Tryd.f22 T22 [t_p0, id_p1, now_p2] w K = B22 t_p0 id_p1 now_p2 w K := by kernel_rfl
theorem c22 {t_p0 id_p1 now_p2 : Value} {w : World} {K : Value → World → Prop} (h : B22 t_p0 id_p1 now_p2 w K) : Calls prog 22 #[t_p0, id_p1, now_p2] w (Ret K) :=
  denFn_calls Tryd.func22 T22_ok (Eq.mpr (B22_eq t_p0 id_p1 now_p2 w K) h)

-- 48 (*holdfast/session.Table).all
def T48 : Ann := (.seq .none (.seq .none (.seq (.seq .none (.block (.loop 137438920864 [5, 15] (.seq .none (.seq (.seq .none .none) (.meet 68719345824 [5] (.block (.seq .none (.seq .none (.seq .none .none)))) .none)))))) (.seq .none .none))))
theorem T48_ok : chkFn prog Tryd.f48 T48 = true := by kernel_rfl
def B48 (t_p0 is_p1 : Value) (w : World) (K : Value → World → Prop) : Prop :=
  pv prog (oNil t_p0) w fun t_0 w =>
  pvv prog (Instr.fieldAt 96 t_0 2) w fun t_1 w =>
  ldv prog (Instr.loadAt 92 t_1) w fun t_2 w =>
  Calls prog 71 #[t_2] w (Ret fun t_3 w =>
  Calls prog 57 #[t_3] w (Ret fun t_4 w =>
  pv prog (oBi .len #[41] 3 #[false] #[t_4]) w fun t_5 w =>
  lp (fun σ w again_8 => pop σ fun out_6 σ => pop σ fun t_7 σ => fin σ <|
    pvv prog (binOp .lss 3 t_7 t_5) w fun t_9 w =>
    cd t_9 (
      jn (fun σ w => pop σ fun out_10 σ => fin σ <|
        pvv prog (binOp .add 3 t_7 (.int .i64 1)) w fun t_11 w =>
        again_8 [out_10, t_11] w) fun k_12 =>
      pvv prog (Instr.indexAt 41 t_4 t_7) w fun t_13 w =>
      ldv prog (Instr.loadAt 3 t_13) w fun t_14 w =>
      pv prog (oNil t_p0) w fun t_15 w =>
      pvv prog (Instr.fieldAt 96 t_15 2) w fun t_16 w =>
      ldv prog (Instr.loadAt 92 t_16) w fun t_17 w =>
      ldv prog (Instr.lookup 92 t_17 t_14 false) w fun t_18 w =>
      ef prog (oCall is_p1 #[t_18]) w fun t_19 w =>
      cd t_19 (
        pv prog (oNil t_p0) w fun t_20 w =>
        pvv prog (Instr.fieldAt 96 t_20 2) w fun t_21 w =>
        ldv prog (Instr.loadAt 92 t_21) w fun t_22 w =>
        ldv prog (Instr.lookup 92 t_22 t_14 false) w fun t_23 w =>
        efv prog (Instr.buildSlice 62 1 #[(0, t_23)]) w fun t_24 w =>
        ef prog (oBi .append #[62, 62] 62 #[false, false] #[out_6, t_24]) w fun t_25 w =>
        k_12 [t_25] w) <|
      k_12 [out_6] w) <|
    K out_6 w) [(.slice none 0 0), (.int .i64 0)] w))
theorem B48_eq (t_p0 is_p1 : Value) (w : World) (K : Value → World → Prop) : denFn prog Tryd.f48 T48 [t_p0, is_p1] w K = B48 t_p0 is_p1 w K := by kernel_rfl
theorem c48 {t_p0 is_p1 : Value} {w : World} {K : Value → World → Prop} (h : B48 t_p0 is_p1 w K) : Calls prog 48 #[t_p0, is_p1] w (Ret K) :=
  denFn_calls Tryd.func48 T48_ok (Eq.mpr (B48_eq t_p0 is_p1 w K) h)

-- 94 strings.IndexRune
def T94 : Ann := (.seq .none (.block (.seq .none (.seq (.seq .none .none) (.seq .none (.seq (.seq (.seq .none (.block (.loop 12164183355622992813219379528005579144973741782332342384 [] (.seq .none (.seq (.seq .none .none) (.block (.seq .none (.seq .none (.seq (.seq .none .none) .none))))))))) (.seq .none .none)) (.seq .none (.seq (.seq .none .none) .none))))))))
theorem T94_ok : chkFn prog Tryd.f94 T94 = true := by kernel_rfl
def B94 (s_p0 r_p1 : Value) (w : World) (K : Value → World → Prop) : Prop :=
  pvv prog (binOp .leq 21 (.int .i32 0) r_p1) w fun t_0 w =>
  gate (some (t_0, true)) (fun K => K r_p1 w) w fun t_1 w =>
  gate (some (t_0, true)) (fun K => pvv prog (binOp .lss 21 t_1 (.int .i32 128)) w K) w fun t_2 w =>
  pv prog (oPick t_0 t_2 (.bool false)) w fun t_3 w =>
  cd t_3 (
    pvv prog (convert 21 5 r_p1) w fun t_4 w =>
    Calls prog 107 #[s_p0, t_4] w (Ret fun t_5 w =>
    K t_5 w)) <|
  pvv prog (oEq .eql 21 (.tmp 172) (.const (.int .i32 65533)) r_p1 (.int .i32 65533)) w fun t_6 w =>
  cd t_6 (
    efv prog (Instr.range 9 s_p0) w fun t_7 w =>
    lp (fun σ w again_8 => fin σ <|
      efv prog (Instr.next t_7 true 0) w fun t_9 w =>
      pvv prog (Instr.extract t_9 0) w fun t_10 w =>
      cd t_10 (
        pvv prog (Instr.extract t_9 1) w fun t_11 w =>
        pvv prog (Instr.extract t_9 2) w fun t_12 w =>
        pvv prog (oEq .eql 21 (.tmp 180) (.const (.int .i32 65533)) t_12 (.int .i32 65533)) w fun t_13 w =>
        cd t_13 (
          K t_11 w) <|
        again_8 [] w) <|
      K (.int .i64 (-1)) w) [] w) <|
  Calls prog 108 #[r_p1] w (Ret fun t_14 w =>
  pvv prog (Op.unary .not t_14) w fun t_15 w =>
  cd t_15 (
    K (.int .i64 (-1)) w) <|
  False)
theorem B94_eq (s_p0 r_p1 : Value) (w : World) (K : Value → World → Prop) : denFn prog Tryd.f94 T94 [s_p0, r_p1] w K = B94 s_p0 r_p1 w K := by kernel_rfl
theorem c94 {s_p0 r_p1 : Value} {w : World} {K : Value → World → Prop} (h : B94 s_p0 r_p1 w K) : Calls prog 94 #[s_p0, r_p1] w (Ret K) :=
  denFn_calls Tryd.func94 T94_ok (Eq.mpr (B94_eq s_p0 r_p1 w K) h)

-- 100 slices.reverseRangeOrdered[int]
def T100 : Ann := (.seq .none (.seq .none (.block (.loop 4294965440 [6, 7] (.seq (.seq .none (.seq .none .none)) (.block (.seq (.draw [.op 0 .pure, .op 1 .pure, .op 2 .pure, .op 3 .pure, .op 4 .pure, .op 5 .pure, .op 6 .pure, .op 8 .pure, .op 9 .pure, .op 10 .pure, .op 7 .load, .op 11 .load, .op 12 .pure, .op 13 .eff, .op 14 .pure, .op 15 .eff]) (.seq .none .none))))))))
theorem T100_ok : chkFn prog Tryd.f100 T100 = true := by kernel_rfl
def B100 (data_p0 a_p1 b_p2 : Value) (w : World) (K : Value → World → Prop) : Prop :=
  pvv prog (binOp .sub 3 b_p2 (.int .i64 1)) w fun t_0 w =>
  lp (fun σ w again_3 => pop σ fun i_1 σ => pop σ fun j_2 σ => fin σ <|
    pvv prog (binOp .lss 3 i_1 j_2) w fun t_4 w =>
    cd t_4 (
      dr w fun w =>
      pvv prog (Instr.indexAt 41 data_p0 j_2) w fun t_5 w =>
      pvv prog (Instr.indexAt 41 data_p0 i_1) w fun t_6 w =>
      bindS (vN (Instr.loadAt 3 t_5)) fun m_8 => ldv prog (Instr.loadAt 3 t_5) w fun t_7 w =>
      bindS (vN (Instr.loadAt 3 t_6)) fun m_10 => ldv prog (Instr.loadAt 3 t_6) w fun t_9 w =>
      pvv prog (Instr.indexAt 41 data_p0 i_1) w fun t_11 w =>
      efu prog (Instr.storeAt 3 t_11 t_7) w fun u_12 w =>
      pvv prog (Instr.indexAt 41 data_p0 j_2) w fun t_13 w =>
      efu prog (Instr.storeAt 3 t_13 t_9) w fun u_14 w =>
      pvv prog (binOp .add 3 i_1 (.int .i64 1)) w fun t_15 w =>
      pvv prog (binOp .sub 3 j_2 (.int .i64 1)) w fun t_16 w =>
      again_3 [t_15, t_16] w) <|
    K (.tuple #[]) w) [a_p1, t_0] w
theorem B100_eq (data_p0 a_p1 b_p2 : Value) (w : World) (K : Value → World → Prop) : denFn prog Tryd.f100 T100 [data_p0, a_p1, b_p2] w K = B100 data_p0 a_p1 b_p2 w K := by kernel_rfl
theorem c100 {data_p0 a_p1 b_p2 : Value} {w : World} {K : Value → World → Prop} (h : B100 data_p0 a_p1 b_p2 w K) : Calls prog 100 #[data_p0, a_p1, b_p2] w (Ret K) :=
  denFn_calls Tryd.func100 T100_ok (Eq.mpr (B100_eq data_p0 a_p1 b_p2 w K) h)

-- 11 (*holdfast/token.Store).End
def T11 : Ann := (.seq .none (.seq (.seq .none (.seq (.seq .none .none) .none)) (.seq .none (.meet 8126464 [] (.seq .none (.seq .none .none)) (.seq .none .none)))))
theorem T11_ok : chkFn prog Tryd.f11 T11 = true := by kernel_rfl
def B11 (s_p0 family_p1 : Value) (w : World) (K : Value → World → Prop) : Prop :=
  pvv prog (oEq .eql 22 (.tmp 7) (.const (.pointer none)) s_p0 (.pointer none)) w fun t_0 w =>
  cd t_0 (
    K (.int .i64 1) w) <|
  pv prog (oNil s_p0) w fun t_1 w =>
  pvv prog (Instr.fieldAt 74 t_1 0) w fun t_2 w =>
  ldv prog (Instr.loadAt 69 t_2) w fun t_3 w =>
  Calls prog 31 #[t_3, family_p1] w (Ret fun t_4 w =>
  pvv prog (Instr.extract t_4 0) w fun t_5 w =>
  pvv prog (Instr.extract t_4 1) w fun t_6 w =>
  efv prog (Instr.alloc 27 true (.tuple #[])) w fun t_7 w =>
  efu prog (Instr.storeAt 27 t_7 t_5) w fun u_8 w =>
  jn (fun σ w => fin σ <|
    K t_6 w) fun k_9 =>
  pvv prog (oEq .eql 30 (.tmp 18) (.const (.int .i64 0)) t_6 (.int .i64 0)) w fun t_10 w =>
  cd t_10 (
    Calls prog 32 #[s_p0, family_p1] w (Ret fun t_11 w =>
    k_9 [] w)) <|
  k_9 [] w)
theorem B11_eq (s_p0 family_p1 : Value) (w : World) (K : Value → World → Prop) : denFn prog Tryd.f11 T11 [s_p0, family_p1] w K = B11 s_p0 family_p1 w K := by kernel_rfl
theorem c11 {s_p0 family_p1 : Value} {w : World} {K : Value → World → Prop} (h : B11 s_p0 family_p1 w K) : Calls prog 11 #[s_p0, family_p1] w (Ret K) :=
  denFn_calls Tryd.func11 T11_ok (Eq.mpr (B11_eq s_p0 family_p1 w K) h)

-- 25 holdfast/codec.IsName
def T25 : Ann := (.seq .none (.seq .none .none))
theorem T25_ok : chkFn prog Tryd.f25 T25 = true := by kernel_rfl
def B25 (s_p0 : Value) (w : World) (K : Value → World → Prop) : Prop :=
  pvv prog (oEq .neq 9 (.tmp 3) (.const (.string ⟨#[]⟩)) s_p0 (.string ⟨#[]⟩)) w fun t_0 w =>
  gate (some (t_0, true)) (fun K => K s_p0 w) w fun t_1 w =>
  gate (some (t_0, true)) (fun K => pv prog (oBi .len #[9] 3 #[false] #[t_1]) w K) w fun t_2 w =>
  gate (some (t_0, true)) (fun K => pvv prog (binOp .leq 3 t_2 (.int .i64 9)) w K) w fun t_3 w =>
  pv prog (oPick t_0 t_3 (.bool false)) w fun t_4 w =>
  gate (some (t_4, true)) (fun K => K s_p0 w) w fun t_5 w =>
  gate (some (t_4, true)) (fun K => Calls prog 56 #[t_5, (.string ⟨#[97, 98, 99, 100, 101, 102, 103, 104, 105, 106, 107, 108, 109, 110, 111, 112, 113, 114, 115, 116, 117, 118, 119, 120, 121, 122, 48, 49, 50, 51, 52, 53, 54, 55, 56, 57, 45]⟩)] w (Ret K)) w fun t_6 w =>
  gate (some (t_4, true)) (fun K => pvv prog (oEq .eql 9 (.tmp 12) (.const (.string ⟨#[]⟩)) t_6 (.string ⟨#[]⟩)) w K) w fun t_7 w =>
  pv prog (oPick t_4 t_7 (.bool false)) w fun t_8 w =>
  K t_8 w
theorem B25_eq (s_p0 : Value) (w : World) (K : Value → World → Prop) : denFn prog Tryd.f25 T25 [s_p0] w K = B25 s_p0 w K := by kernel_rfl
theorem c25 {s_p0 : Value} {w : World} {K : Value → World → Prop} (h : B25 s_p0 w K) : Calls prog 25 #[s_p0] w (Ret K) :=
  denFn_calls Tryd.func25 T25_ok (Eq.mpr (B25_eq s_p0 w K) h)

-- 64 (*holdfast/holdfastref12.Store).time
def T64 : Ann := (.seq .none (.seq (.block (.seq .none (.seq (.seq .none .none) (.seq .none (.seq (.seq .none .none) (.seq .none (.seq (.seq .none .none) .none))))))) (.seq .none .none)))
theorem T64_ok : chkFn prog Tryd.f64 T64 = true := by kernel_rfl
def B64 (s_p0 now_p1 : Value) (w : World) (K : Value → World → Prop) : Prop :=
  pvv prog (oEq .eql 38 (.tmp 6) (.const (.pointer none)) s_p0 (.pointer none)) w fun t_0 w =>
  cd t_0 (
    K (.int .i64 1) w) <|
  pvv prog (binOp .lss 3 now_p1 (.int .i64 0)) w fun t_1 w =>
  gate (some (t_1, false)) (fun K => K now_p1 w) w fun t_2 w =>
  gate (some (t_1, false)) (fun K => pvv prog (binOp .gtr 3 t_2 (.int .i64 1099511627776)) w K) w fun t_3 w =>
  pv prog (oPick t_1 (.bool true) t_3) w fun t_4 w =>
  cd t_4 (
    K (.int .i64 2) w) <|
  pv prog (oNil s_p0) w fun t_5 w =>
  pvv prog (Instr.fieldAt 83 t_5 2) w fun t_6 w =>
  ldv prog (Instr.loadAt 3 t_6) w fun t_7 w =>
  pvv prog (binOp .lss 3 now_p1 t_7) w fun t_8 w =>
  cd t_8 (
    K (.int .i64 9) w) <|
  K (.int .i64 0) w
theorem B64_eq (s_p0 now_p1 : Value) (w : World) (K : Value → World → Prop) : denFn prog Tryd.f64 T64 [s_p0, now_p1] w K = B64 s_p0 now_p1 w K := by kernel_rfl
theorem c64 {s_p0 now_p1 : Value} {w : World} {K : Value → World → Prop} (h : B64 s_p0 now_p1 w K) : Calls prog 64 #[s_p0, now_p1] w (Ret K) :=
  denFn_calls Tryd.func64 T64_ok (Eq.mpr (B64_eq s_p0 now_p1 w K) h)

-- 87 unicode/utf8.DecodeRuneInString
def T87 : Ann := (.seq .none (.seq (.seq .none (.seq (.seq .none .none) .none)) .none))
theorem T87_ok : chkFn prog Tryd.f87 T87 = true := by kernel_rfl
def B87 (s_p0 : Value) (w : World) (K : Value → World → Prop) : Prop :=
  pvv prog (oEq .neq 9 (.tmp 4) (.const (.string ⟨#[]⟩)) s_p0 (.string ⟨#[]⟩)) w fun t_0 w =>
  gate (some (t_0, true)) (fun K => K s_p0 w) w fun t_1 w =>
  gate (some (t_0, true)) (fun K => pvv prog (Instr.index 9 t_1 (.int .i64 0)) w K) w fun t_2 w =>
  gate (some (t_0, true)) (fun K => pvv prog (binOp .lss 5 t_2 (.int .u8 128)) w K) w fun t_3 w =>
  pv prog (oPick t_0 t_3 (.bool false)) w fun t_4 w =>
  cd t_4 (
    pvv prog (Instr.index 9 s_p0 (.int .i64 0)) w fun t_5 w =>
    pvv prog (convert 5 21 t_5) w fun t_6 w =>
    K (.tuple #[t_6, (.int .i64 1)]) w) <|
  Calls prog 93 #[s_p0] w (Ret fun t_7 w =>
  pvv prog (Instr.extract t_7 0) w fun t_8 w =>
  pvv prog (Instr.extract t_7 1) w fun t_9 w =>
  K (.tuple #[t_8, t_9]) w)
theorem B87_eq (s_p0 : Value) (w : World) (K : Value → World → Prop) : denFn prog Tryd.f87 T87 [s_p0] w K = B87 s_p0 w K := by kernel_rfl
theorem c87 {s_p0 : Value} {w : World} {K : Value → World → Prop} (h : B87 s_p0 w K) : Calls prog 87 #[s_p0] w (Ret K) :=
  denFn_calls Tryd.func87 T87_ok (Eq.mpr (B87_eq s_p0 w K) h)

-- 68 (*holdfast/token.Store).EndClient$1
def T68 : Ann := (.seq .none (.seq .none .none))
theorem T68_ok : chkFn prog Tryd.f68 T68 = true := by kernel_rfl
def B68 (f_p0 x_p1 x_p2 : Value) (w : World) (K : Value → World → Prop) : Prop :=
  efv prog (Instr.box 27 f_p0) w fun f_0 w =>
  pvv prog (Instr.fieldAt 27 f_0 2) w fun t_1 w =>
  ldv prog (Instr.loadAt 9 t_1) w fun t_2 w =>
  ldv prog (Instr.loadAt 9 x_p1) w fun t_3 w =>
  pvv prog (oEq .eql 9 (.tmp 6) (.tmp 7) t_2 t_3) w fun t_4 w =>
  gate (some (t_4, true)) (fun K => ldv prog (Instr.loadAt 41 x_p2) w K) w fun t_5 w =>
  gate (some (t_4, true)) (fun K => pvv prog (Instr.fieldAt 27 f_0 1) w K) w fun t_6 w =>
  gate (some (t_4, true)) (fun K => ldv prog (Instr.loadAt 3 t_6) w K) w fun t_7 w =>
  gate (some (t_4, true)) (fun K => Calls prog 53 #[t_5, t_7] w (Ret K)) w fun t_8 w =>
  pv prog (oPick t_4 t_8 (.bool false)) w fun t_9 w =>
  K t_9 w
theorem B68_eq (f_p0 x_p1 x_p2 : Value) (w : World) (K : Value → World → Prop) : denFn prog Tryd.f68 T68 [f_p0, x_p1, x_p2] w K = B68 f_p0 x_p1 x_p2 w K := by kernel_rfl
theorem c68 {f_p0 x_p1 x_p2 : Value} {w : World} {K : Value → World → Prop} (h : B68 f_p0 x_p1 x_p2 w K) : Calls prog 68 #[f_p0, x_p1, x_p2] w (Ret K) :=
  denFn_calls Tryd.func68 T68_ok (Eq.mpr (B68_eq f_p0 x_p1 x_p2 w K) h)

-- 70 (holdfast/session.clock).look
def T70 : Ann := (.seq .none (.seq (.block (.seq .none (.seq (.seq .none .none) (.seq .none (.seq (.seq .none .none) .none))))) (.seq .none .none)))
theorem T70_ok : chkFn prog Tryd.f70 T70 = true := by kernel_rfl
def B70 (c_p0 now_p1 : Value) (w : World) (K : Value → World → Prop) : Prop :=
  efv prog (Instr.box 94 c_p0) w fun c_0 w =>
  pvv prog (binOp .lss 3 now_p1 (.int .i64 0)) w fun t_1 w =>
  gate (some (t_1, false)) (fun K => K now_p1 w) w fun t_2 w =>
  gate (some (t_1, false)) (fun K => pvv prog (binOp .gtr 3 t_2 (.int .i64 1099511627776)) w K) w fun t_3 w =>
  pv prog (oPick t_1 (.bool true) t_3) w fun t_4 w =>
  cd t_4 (
    K (.int .i64 2) w) <|
  pvv prog (Instr.fieldAt 94 c_0 0) w fun t_5 w =>
  ldv prog (Instr.loadAt 3 t_5) w fun t_6 w =>
  pvv prog (binOp .lss 3 now_p1 t_6) w fun t_7 w =>
  cd t_7 (
    K (.int .i64 9) w) <|
  K (.int .i64 0) w
theorem B70_eq (c_p0 now_p1 : Value) (w : World) (K : Value → World → Prop) : denFn prog Tryd.f70 T70 [c_p0, now_p1] w K = B70 c_p0 now_p1 w K := by kernel_rfl
theorem c70 {c_p0 now_p1 : Value} {w : World} {K : Value → World → Prop} (h : B70 c_p0 now_p1 w K) : Calls prog 70 #[c_p0, now_p1] w (Ret K) :=
  denFn_calls Tryd.func70 T70_ok (Eq.mpr (B70_eq c_p0 now_p1 w K) h)

-- 90 slices.AppendSeq[[]int,int]
def T90 : Ann := (.seq .none (.seq (.seq .none (.block (.range .none (.block .none)))) (.seq .none .none)))
theorem T90_ok : chkFn prog Tryd.f90 T90 = true := by kernel_rfl
def B90 (s_p0 seq_p1 : Value) (w : World) (K : Value → World → Prop) : Prop :=
  efv prog (Instr.box 41 s_p0) w fun s_0 w =>
  rng prog 1 seq_p1 (fun σ w bg_2 ex_3 => pop σ fun t_1 σ => fin σ <|
    bg_2 w fun w =>
    ldv prog (Instr.loadAt 41 s_0) w fun t_4 w =>
    efv prog (Instr.buildSlice 41 1 #[(0, t_1)]) w fun t_5 w =>
    ef prog (oBi .append #[41, 41] 41 #[false, false] #[t_4, t_5]) w fun t_6 w =>
    efu prog (Instr.storeAt 41 s_0 t_6) w fun u_7 w =>
    ex_3 .normal w) w fun p_9 D_8 w =>
  jump (
    ldv prog (Instr.loadAt 41 s_0) w fun t_10 w =>
    und [D_8] w fun w => K t_10 w) (
    und [D_8] w fun w => K (.slice none 0 0) w) [] p_9
theorem B90_eq (s_p0 seq_p1 : Value) (w : World) (K : Value → World → Prop) : denFn prog Tryd.f90 T90 [s_p0, seq_p1] w K = B90 s_p0 seq_p1 w K := by kernel_rfl
theorem c90 {s_p0 seq_p1 : Value} {w : World} {K : Value → World → Prop} (h : B90 s_p0 seq_p1 w K) : Calls prog 90 #[s_p0, seq_p1] w (Ret K) :=
  denFn_calls Tryd.func90 T90_ok (Eq.mpr (B90_eq s_p0 seq_p1 w K) h)

-- 42 (*holdfast/holdfastref12.Store).EndClient
def T42 : Ann := (.seq .none (.seq (.seq .none (.seq (.seq .none .none) .none)) (.seq .none .none)))
theorem T42_ok : chkFn prog Tryd.f42 T42 = true := by kernel_rfl
def B42 (s_p0 client_p1 sessions_p2 : Value) (w : World) (K : Value → World → Prop) : Prop :=
  pvv prog (oEq .eql 9 (.tmp 7) (.const (.string ⟨#[]⟩)) client_p1 (.string ⟨#[]⟩)) w fun t_0 w =>
  cd t_0 (
    K (.slice none 0 0) w) <|
  Calls prog 67 #[s_p0, client_p1, sessions_p2] w (Ret fun t_1 w =>
  K t_1 w)
theorem B42_eq (s_p0 client_p1 sessions_p2 : Value) (w : World) (K : Value → World → Prop) : denFn prog Tryd.f42 T42 [s_p0, client_p1, sessions_p2] w K = B42 s_p0 client_p1 sessions_p2 w K := by kernel_rfl
theorem c42 {s_p0 client_p1 sessions_p2 : Value} {w : World} {K : Value → World → Prop} (h : B42 s_p0 client_p1 sessions_p2 w K) : Calls prog 42 #[s_p0, client_p1, sessions_p2] w (Ret K) :=
  denFn_calls Tryd.func42 T42_ok (Eq.mpr (B42_eq s_p0 client_p1 sessions_p2 w K) h)

-- 41 (*holdfast/token.Store).EndClient
def T41 : Ann := (.seq .none (.seq .none .none))
theorem T41_ok : chkFn prog Tryd.f41 T41 = true := by kernel_rfl
def B41 (s_p0 client_p1 sessions_p2 : Value) (w : World) (K : Value → World → Prop) : Prop :=
  efv prog (Instr.box 9 client_p1) w fun client_0 w =>
  efv prog (Instr.box 41 sessions_p2) w fun sessions_1 w =>
  pvv prog (Instr.makeFunc (.func 68) #[] #[client_0, sessions_1]) w fun t_2 w =>
  Calls prog 51 #[s_p0, t_2] w (Ret fun t_3 w =>
  K t_3 w)
theorem B41_eq (s_p0 client_p1 sessions_p2 : Value) (w : World) (K : Value → World → Prop) : denFn prog Tryd.f41 T41 [s_p0, client_p1, sessions_p2] w K = B41 s_p0 client_p1 sessions_p2 w K := by kernel_rfl
theorem c41 {s_p0 client_p1 sessions_p2 : Value} {w : World} {K : Value → World → Prop} (h : B41 s_p0 client_p1 sessions_p2 w K) : Calls prog 41 #[s_p0, client_p1, sessions_p2] w (Ret K) :=
  denFn_calls Tryd.func41 T41_ok (Eq.mpr (B41_eq s_p0 client_p1 sessions_p2 w K) h)

-- 72 holdfast/session.later
def T72 : Ann := (.seq .none (.seq (.seq .none (.seq (.seq .none .none) .none)) (.seq .none .none)))
theorem T72_ok : chkFn prog Tryd.f72 T72 = true := by kernel_rfl
def B72 (t_p0 by_p1 : Value) (w : World) (K : Value → World → Prop) : Prop :=
  pvv prog (binOp .sub 3 (.int .i64 1099511627776) by_p1) w fun t_0 w =>
  pvv prog (binOp .gtr 3 t_p0 t_0) w fun t_1 w =>
  cd t_1 (
    K (.int .i64 1099511627776) w) <|
  pvv prog (binOp .add 3 t_p0 by_p1) w fun t_2 w =>
  K t_2 w
theorem B72_eq (t_p0 by_p1 : Value) (w : World) (K : Value → World → Prop) : denFn prog Tryd.f72 T72 [t_p0, by_p1] w K = B72 t_p0 by_p1 w K := by kernel_rfl
theorem c72 {t_p0 by_p1 : Value} {w : World} {K : Value → World → Prop} (h : B72 t_p0 by_p1 w K) : Calls prog 72 #[t_p0, by_p1] w (Ret K) :=
  denFn_calls Tryd.func72 T72_ok (Eq.mpr (B72_eq t_p0 by_p1 w K) h)

-- 7 holdfast/token.New
def T7 : Ann := (.seq .none (.seq .none .none))
theorem T7_ok : chkFn prog Tryd.f7 T7 = true := by kernel_rfl
def B7 (w : World) (K : Value → World → Prop) : Prop :=
  efv prog (Instr.makeMap 67 none) w fun t_0 w =>
  pvv prog (Instr.build 69 #[(0, (.int .i64 1)), (1, t_0)]) w fun t_1 w =>
  efv prog (Instr.makeMap 70 none) w fun t_2 w =>
  pvv prog (Instr.build 72 #[(0, (.int .i64 1)), (1, t_2)]) w fun t_3 w =>
  pvv prog (Instr.build 74 #[(0, t_1), (1, t_3)]) w fun t_4 w =>
  efv prog (Instr.box 74 t_4) w fun t_5 w =>
  K t_5 w
theorem B7_eq (w : World) (K : Value → World → Prop) : denFn prog Tryd.f7 T7 [] w K = B7  w K := by kernel_rfl
theorem c7 {w : World} {K : Value → World → Prop} (h : B7  w K) : Calls prog 7 #[] w (Ret K) :=
  denFn_calls Tryd.func7 T7_ok (Eq.mpr (B7_eq  w K) h)

-- 92 math/bits.Len
def T92 : Ann := (.seq .none (.seq (.seq (.seq .none .none) .none) (.seq .none .none)))
theorem T92_ok : chkFn prog Tryd.f92 T92 = true := by kernel_rfl
def B92 (x_p0 : Value) (w : World) (K : Value → World → Prop) : Prop :=
  cd (.bool false) (
    pvv prog (convert 133 145 x_p0) w fun t_0 w =>
    Calls prog 105 #[t_0] w (Ret fun t_1 w =>
    K t_1 w)) <|
  Calls prog 106 #[x_p0] w (Ret fun t_2 w =>
  K t_2 w)
theorem B92_eq (x_p0 : Value) (w : World) (K : Value → World → Prop) : denFn prog Tryd.f92 T92 [x_p0] w K = B92 x_p0 w K := by kernel_rfl
theorem c92 {x_p0 : Value} {w : World} {K : Value → World → Prop} (h : B92 x_p0 w K) : Calls prog 92 #[x_p0] w (Ret K) :=
  denFn_calls Tryd.func92 T92_ok (Eq.mpr (B92_eq x_p0 w K) h)

-- 71 maps.Keys[map[int]holdfast/api.Session,int,holdfast/api.Session]
def T71 : Ann := (.seq .none (.seq .none .none))
theorem T71_ok : chkFn prog Tryd.f71 T71 = true := by kernel_rfl
def B71 (m_p0 : Value) (w : World) (K : Value → World → Prop) : Prop :=
  efv prog (Instr.box 92 m_p0) w fun m_0 w =>
  pvv prog (Instr.makeFunc (.func 85) #[] #[m_0]) w fun t_1 w =>
  K t_1 w
theorem B71_eq (m_p0 : Value) (w : World) (K : Value → World → Prop) : denFn prog Tryd.f71 T71 [m_p0] w K = B71 m_p0 w K := by kernel_rfl
theorem c71 {m_p0 : Value} {w : World} {K : Value → World → Prop} (h : B71 m_p0 w K) : Calls prog 71 #[m_p0] w (Ret K) :=
  denFn_calls Tryd.func71 T71_ok (Eq.mpr (B71_eq m_p0 w K) h)

-- 88 strings.ContainsRune
def T88 : Ann := (.seq .none (.seq .none .none))
theorem T88_ok : chkFn prog Tryd.f88 T88 = true := by kernel_rfl
def B88 (s_p0 r_p1 : Value) (w : World) (K : Value → World → Prop) : Prop :=
  Calls prog 94 #[s_p0, r_p1] w (Ret fun t_0 w =>
  pvv prog (binOp .geq 3 t_0 (.int .i64 0)) w fun t_1 w =>
  K t_1 w)
theorem B88_eq (s_p0 r_p1 : Value) (w : World) (K : Value → World → Prop) : denFn prog Tryd.f88 T88 [s_p0, r_p1] w K = B88 s_p0 r_p1 w K := by kernel_rfl
theorem c88 {s_p0 r_p1 : Value} {w : World} {K : Value → World → Prop} (h : B88 s_p0 r_p1 w K) : Calls prog 88 #[s_p0, r_p1] w (Ret K) :=
  denFn_calls Tryd.func88 T88_ok (Eq.mpr (B88_eq s_p0 r_p1 w K) h)

-- 16 holdfast/session.New
def T16 : Ann := (.seq .none (.seq .none .none))
theorem T16_ok : chkFn prog Tryd.f16 T16 = true := by kernel_rfl
def B16 (w : World) (K : Value → World → Prop) : Prop :=
  efv prog (Instr.makeMap 92 none) w fun t_0 w =>
  pvv prog (Instr.build 96 #[(1, (.int .i64 1)), (2, t_0)]) w fun t_1 w =>
  efv prog (Instr.box 96 t_1) w fun t_2 w =>
  K t_2 w
theorem B16_eq (w : World) (K : Value → World → Prop) : denFn prog Tryd.f16 T16 [] w K = B16  w K := by kernel_rfl
theorem c16 {w : World} {K : Value → World → Prop} (h : B16  w K) : Calls prog 16 #[] w (Ret K) :=
  denFn_calls Tryd.func16 T16_ok (Eq.mpr (B16_eq  w K) h)


end Go.Proofs.YtbcimkjgpplcpaaDoor
