import Derived.Test.YtcjklbhobmkalaaPI
set_option linter.all false
set_option maxRecDepth 100000
namespace Go.Proofs.Ytcjklbhobmkalaa
open Go Hold
-- 79 slices.partitionOrdered[int]
def T79 : Ann := (.seq .none (.seq (.draw [.op 0 .pure, .op 1 .pure, .op 2 .pure, .op 3 .pure, .op 4 .pure, .op 5 .pure, .op 6 .pure, .op 8 .pure, .op 9 .pure, .op 10 .pure, .op 7 .load, .op 11 .load, .op 12 .pure, .op 13 .eff, .op 14 .pure, .op 15 .eff]) (.seq .none (.seq (.block (.loop 70367670436864 [10] (.seq (.seq (.draw [.op 0 .pure, .op 1 .pure, .op 2 .pure, .op 3 .pure, .op 4 .pure, .op 5 .pure, .op 6 .pure, .op 8 .pure, .op 9 .pure, .op 10 .pure, .op 7 .load, .op 11 .load, .op 12 .eff, .op 13 .pure]) (.seq .none .none)) (.block .none)))) (.seq (.block (.loop 9223301668110600192 [11] (.seq (.seq (.draw [.op 0 .pure, .op 1 .pure, .op 2 .pure, .op 3 .pure, .op 4 .pure, .op 5 .pure, .op 6 .pure, .op 8 .pure, .op 9 .pure, .op 10 .pure, .op 7 .load, .op 11 .load, .op 12 .eff, .op 13 .pure, .op 14 .pure]) (.seq .none .none)) (.block .none)))) (.seq (.seq .none (.seq (.seq (.draw [.op 0 .pure, .op 1 .pure, .op 2 .pure, .op 3 .pure, .op 4 .pure, .op 5 .pure, .op 6 .pure, .op 8 .pure, .op 9 .pure, .op 10 .pure, .op 7 .load, .op 11 .load, .op 12 .pure, .op 13 .eff, .op 14 .pure, .op 15 .eff]) (.seq .none .none)) .none)) (.seq (.draw [.op 0 .pure, .op 1 .pure, .op 2 .pure, .op 3 .pure, .op 4 .pure, .op 5 .pure, .op 6 .pure, .op 8 .pure, .op 9 .pure, .op 10 .pure, .op 7 .load, .op 11 .load, .op 12 .pure, .op 13 .eff, .op 14 .pure, .op 15 .eff]) (.seq .none (.seq .none (.seq (.block (.loop 11417981541647678414640987641481260342710373376 [10, 11] (.block (.seq (.block (.loop 41537741042978506913543222282159104 [10] (.seq (.seq (.draw [.op 0 .pure, .op 1 .pure, .op 2 .pure, .op 3 .pure, .op 4 .pure, .op 5 .pure, .op 6 .pure, .op 8 .pure, .op 9 .pure, .op 10 .pure, .op 7 .load, .op 11 .load, .op 12 .eff, .op 13 .pure]) (.seq .none .none)) (.block .none)))) (.seq (.block (.loop 5444476332360147136792965474937657624576 [11] (.seq (.seq (.draw [.op 0 .pure, .op 1 .pure, .op 2 .pure, .op 3 .pure, .op 4 .pure, .op 5 .pure, .op 6 .pure, .op 8 .pure, .op 9 .pure, .op 10 .pure, .op 7 .load, .op 11 .load, .op 12 .eff, .op 13 .pure, .op 14 .pure]) (.seq .none .none)) (.block .none)))) (.seq (.seq .none (.seq .none .none)) (.seq (.draw [.op 0 .pure, .op 1 .pure, .op 2 .pure, .op 3 .pure, .op 4 .pure, .op 5 .pure, .op 6 .pure, .op 8 .pure, .op 9 .pure, .op 10 .pure, .op 7 .load, .op 11 .load, .op 12 .pure, .op 13 .eff, .op 14 .pure, .op 15 .eff]) (.seq .none .none)))))))) (.seq (.draw [.op 0 .pure, .op 1 .pure, .op 2 .pure, .op 3 .pure, .op 4 .pure, .op 5 .pure, .op 6 .pure, .op 8 .pure, .op 9 .pure, .op 10 .pure, .op 7 .load, .op 11 .load, .op 12 .pure, .op 13 .eff, .op 14 .pure, .op 15 .eff]) (.seq .none .none))))))))))))
theorem T79_ok : chkFn prog Try.f79 T79 = true := by kernel_rfl
def B79 (data_p0 a_p1 b_p2 pivot_p3 : Value) (w : World) (K : Value → World → Prop) : Prop :=
  dr w fun w =>
  pvv prog (Instr.indexAt 38 data_p0 pivot_p3) w fun t_0 w =>
  pvv prog (Instr.indexAt 38 data_p0 a_p1) w fun t_1 w =>
  bindS (vN (Instr.loadAt 3 t_0)) fun m_3 => ldv prog (Instr.loadAt 3 t_0) w fun t_2 w =>
  bindS (vN (Instr.loadAt 3 t_1)) fun m_5 => ldv prog (Instr.loadAt 3 t_1) w fun t_4 w =>
  pvv prog (Instr.indexAt 38 data_p0 a_p1) w fun t_6 w =>
  efu prog (Instr.storeAt 3 t_6 t_2) w fun u_7 w =>
  pvv prog (Instr.indexAt 38 data_p0 pivot_p3) w fun t_8 w =>
  efu prog (Instr.storeAt 3 t_8 t_4) w fun u_9 w =>
  pvv prog (binOp .add 3 a_p1 (.int .i64 1)) w fun t_10 w =>
  pvv prog (binOp .sub 3 b_p2 (.int .i64 1)) w fun t_11 w =>
  lp (fun σ w again_13 => pop σ fun i_12 σ => fin σ <|
    dr w fun w =>
    pvv prog (binOp .leq 3 i_12 t_11) w fun t_14 w =>
    gate (some (t_14, true)) (fun K => K data_p0 w) w fun t_15 w =>
    gate (some (t_14, true)) (fun K => K i_12 w) w fun t_16 w =>
    gate (some (t_14, true)) (fun K => pvv prog (Instr.indexAt 38 t_15 t_16) w K) w fun t_17 w =>
    gate (some (t_14, true)) (fun K => K data_p0 w) w fun t_18 w =>
    gate (some (t_14, true)) (fun K => K a_p1 w) w fun t_19 w =>
    gate (some (t_14, true)) (fun K => pvv prog (Instr.indexAt 38 t_18 t_19) w K) w fun t_20 w =>
    bindS (vN (Instr.loadAt 3 t_17)) fun m_22 => gate (some (t_14, true)) (fun K => ldv prog (Instr.loadAt 3 t_17) w K) w fun t_21 w =>
    bindS (vN (Instr.loadAt 3 t_20)) fun m_24 => gate (some (t_14, true)) (fun K => ldv prog (Instr.loadAt 3 t_20) w K) w fun t_23 w =>
    gate (some (t_14, true)) (fun K => Calls prog 77 #[t_21, t_23] w (Ret fun s_138 w => K s_138 w)) w fun t_25 w =>
    pv prog (oPick t_14 t_25 (.bool false)) w fun t_26 w =>
    cd t_26 (
      pvv prog (binOp .add 3 i_12 (.int .i64 1)) w fun t_27 w =>
      again_13 [t_27] w) <|
    lp (fun σ w again_29 => pop σ fun j_28 σ => fin σ <|
      dr w fun w =>
      pvv prog (binOp .leq 3 i_12 j_28) w fun t_30 w =>
      gate (some (t_30, true)) (fun K => K data_p0 w) w fun t_31 w =>
      gate (some (t_30, true)) (fun K => K j_28 w) w fun t_32 w =>
      gate (some (t_30, true)) (fun K => pvv prog (Instr.indexAt 38 t_31 t_32) w K) w fun t_33 w =>
      gate (some (t_30, true)) (fun K => K data_p0 w) w fun t_34 w =>
      gate (some (t_30, true)) (fun K => K a_p1 w) w fun t_35 w =>
      gate (some (t_30, true)) (fun K => pvv prog (Instr.indexAt 38 t_34 t_35) w K) w fun t_36 w =>
      bindS (vN (Instr.loadAt 3 t_33)) fun m_38 => gate (some (t_30, true)) (fun K => ldv prog (Instr.loadAt 3 t_33) w K) w fun t_37 w =>
      bindS (vN (Instr.loadAt 3 t_36)) fun m_40 => gate (some (t_30, true)) (fun K => ldv prog (Instr.loadAt 3 t_36) w K) w fun t_39 w =>
      gate (some (t_30, true)) (fun K => Calls prog 77 #[t_37, t_39] w (Ret fun s_137 w => K s_137 w)) w fun t_41 w =>
      gate (some (t_30, true)) (fun K => pvv prog (Op.unary .not t_41) w K) w fun t_42 w =>
      pv prog (oPick t_30 t_42 (.bool false)) w fun t_43 w =>
      cd t_43 (
        pvv prog (binOp .sub 3 j_28 (.int .i64 1)) w fun t_44 w =>
        again_29 [t_44] w) <|
      pvv prog (binOp .gtr 3 i_12 j_28) w fun t_45 w =>
      cd t_45 (
        dr w fun w =>
        pvv prog (Instr.indexAt 38 data_p0 a_p1) w fun t_46 w =>
        pvv prog (Instr.indexAt 38 data_p0 j_28) w fun t_47 w =>
        bindS (vN (Instr.loadAt 3 t_46)) fun m_49 => ldv prog (Instr.loadAt 3 t_46) w fun t_48 w =>
        bindS (vN (Instr.loadAt 3 t_47)) fun m_51 => ldv prog (Instr.loadAt 3 t_47) w fun t_50 w =>
        pvv prog (Instr.indexAt 38 data_p0 j_28) w fun t_52 w =>
        efu prog (Instr.storeAt 3 t_52 t_48) w fun u_53 w =>
        pvv prog (Instr.indexAt 38 data_p0 a_p1) w fun t_54 w =>
        efu prog (Instr.storeAt 3 t_54 t_50) w fun u_55 w =>
        K (.tuple #[j_28, (.bool true)]) w) <|
      dr w fun w =>
      pvv prog (Instr.indexAt 38 data_p0 j_28) w fun t_58 w =>
      pvv prog (Instr.indexAt 38 data_p0 i_12) w fun t_59 w =>
      bindS (vN (Instr.loadAt 3 t_58)) fun m_61 => ldv prog (Instr.loadAt 3 t_58) w fun t_60 w =>
      bindS (vN (Instr.loadAt 3 t_59)) fun m_63 => ldv prog (Instr.loadAt 3 t_59) w fun t_62 w =>
      pvv prog (Instr.indexAt 38 data_p0 i_12) w fun t_64 w =>
      efu prog (Instr.storeAt 3 t_64 t_60) w fun u_65 w =>
      pvv prog (Instr.indexAt 38 data_p0 j_28) w fun t_66 w =>
      efu prog (Instr.storeAt 3 t_66 t_62) w fun u_67 w =>
      pvv prog (binOp .add 3 i_12 (.int .i64 1)) w fun t_68 w =>
      pvv prog (binOp .sub 3 j_28 (.int .i64 1)) w fun t_69 w =>
      lp (fun σ w again_72 => pop σ fun i_70 σ => pop σ fun j_71 σ => fin σ <|
        lp (fun σ w again_74 => pop σ fun i_73 σ => fin σ <|
          dr w fun w =>
          pvv prog (binOp .leq 3 i_73 j_71) w fun t_75 w =>
          gate (some (t_75, true)) (fun K => K data_p0 w) w fun t_76 w =>
          gate (some (t_75, true)) (fun K => K i_73 w) w fun t_77 w =>
          gate (some (t_75, true)) (fun K => pvv prog (Instr.indexAt 38 t_76 t_77) w K) w fun t_78 w =>
          gate (some (t_75, true)) (fun K => K data_p0 w) w fun t_79 w =>
          gate (some (t_75, true)) (fun K => K a_p1 w) w fun t_80 w =>
          gate (some (t_75, true)) (fun K => pvv prog (Instr.indexAt 38 t_79 t_80) w K) w fun t_81 w =>
          bindS (vN (Instr.loadAt 3 t_78)) fun m_83 => gate (some (t_75, true)) (fun K => ldv prog (Instr.loadAt 3 t_78) w K) w fun t_82 w =>
          bindS (vN (Instr.loadAt 3 t_81)) fun m_85 => gate (some (t_75, true)) (fun K => ldv prog (Instr.loadAt 3 t_81) w K) w fun t_84 w =>
          gate (some (t_75, true)) (fun K => Calls prog 77 #[t_82, t_84] w (Ret fun s_134 w => K s_134 w)) w fun t_86 w =>
          pv prog (oPick t_75 t_86 (.bool false)) w fun t_87 w =>
          cd t_87 (
            pvv prog (binOp .add 3 i_73 (.int .i64 1)) w fun t_88 w =>
            again_74 [t_88] w) <|
          lp (fun σ w again_90 => pop σ fun j_89 σ => fin σ <|
            dr w fun w =>
            pvv prog (binOp .leq 3 i_73 j_89) w fun t_91 w =>
            gate (some (t_91, true)) (fun K => K data_p0 w) w fun t_92 w =>
            gate (some (t_91, true)) (fun K => K j_89 w) w fun t_93 w =>
            gate (some (t_91, true)) (fun K => pvv prog (Instr.indexAt 38 t_92 t_93) w K) w fun t_94 w =>
            gate (some (t_91, true)) (fun K => K data_p0 w) w fun t_95 w =>
            gate (some (t_91, true)) (fun K => K a_p1 w) w fun t_96 w =>
            gate (some (t_91, true)) (fun K => pvv prog (Instr.indexAt 38 t_95 t_96) w K) w fun t_97 w =>
            bindS (vN (Instr.loadAt 3 t_94)) fun m_99 => gate (some (t_91, true)) (fun K => ldv prog (Instr.loadAt 3 t_94) w K) w fun t_98 w =>
            bindS (vN (Instr.loadAt 3 t_97)) fun m_101 => gate (some (t_91, true)) (fun K => ldv prog (Instr.loadAt 3 t_97) w K) w fun t_100 w =>
            gate (some (t_91, true)) (fun K => Calls prog 77 #[t_98, t_100] w (Ret fun s_133 w => K s_133 w)) w fun t_102 w =>
            gate (some (t_91, true)) (fun K => pvv prog (Op.unary .not t_102) w K) w fun t_103 w =>
            pv prog (oPick t_91 t_103 (.bool false)) w fun t_104 w =>
            cd t_104 (
              pvv prog (binOp .sub 3 j_89 (.int .i64 1)) w fun t_105 w =>
              again_90 [t_105] w) <|
            pvv prog (binOp .gtr 3 i_73 j_89) w fun t_106 w =>
            cd t_106 (
              dr w fun w =>
              pvv prog (Instr.indexAt 38 data_p0 a_p1) w fun t_107 w =>
              pvv prog (Instr.indexAt 38 data_p0 j_89) w fun t_108 w =>
              bindS (vN (Instr.loadAt 3 t_107)) fun m_110 => ldv prog (Instr.loadAt 3 t_107) w fun t_109 w =>
              bindS (vN (Instr.loadAt 3 t_108)) fun m_112 => ldv prog (Instr.loadAt 3 t_108) w fun t_111 w =>
              pvv prog (Instr.indexAt 38 data_p0 j_89) w fun t_113 w =>
              efu prog (Instr.storeAt 3 t_113 t_109) w fun u_114 w =>
              pvv prog (Instr.indexAt 38 data_p0 a_p1) w fun t_115 w =>
              efu prog (Instr.storeAt 3 t_115 t_111) w fun u_116 w =>
              K (.tuple #[j_89, (.bool false)]) w) <|
            dr w fun w =>
            pvv prog (Instr.indexAt 38 data_p0 j_89) w fun t_119 w =>
            pvv prog (Instr.indexAt 38 data_p0 i_73) w fun t_120 w =>
            bindS (vN (Instr.loadAt 3 t_119)) fun m_122 => ldv prog (Instr.loadAt 3 t_119) w fun t_121 w =>
            bindS (vN (Instr.loadAt 3 t_120)) fun m_124 => ldv prog (Instr.loadAt 3 t_120) w fun t_123 w =>
            pvv prog (Instr.indexAt 38 data_p0 i_73) w fun t_125 w =>
            efu prog (Instr.storeAt 3 t_125 t_121) w fun u_126 w =>
            pvv prog (Instr.indexAt 38 data_p0 j_89) w fun t_127 w =>
            efu prog (Instr.storeAt 3 t_127 t_123) w fun u_128 w =>
            pvv prog (binOp .add 3 i_73 (.int .i64 1)) w fun t_129 w =>
            pvv prog (binOp .sub 3 j_89 (.int .i64 1)) w fun t_130 w =>
            again_72 [t_129, t_130] w) [j_71] w) [i_70] w) [t_68, t_69] w) [t_11] w) [t_10] w
theorem B79_eq (data_p0 a_p1 b_p2 pivot_p3 : Value) (w : World) (K : Value → World → Prop) : denFn prog Try.f79 T79 [data_p0, a_p1, b_p2, pivot_p3] w K = B79 data_p0 a_p1 b_p2 pivot_p3 w K := by kernel_rfl
theorem c79 {data_p0 a_p1 b_p2 pivot_p3 : Value} {w : World} {K : Value → World → Prop} (h : B79 data_p0 a_p1 b_p2 pivot_p3 w K) : Calls prog 79 #[data_p0, a_p1, b_p2, pivot_p3] w (Ret K) :=
  denFn_calls Try.func79 T79_ok (Eq.mpr (B79_eq data_p0 a_p1 b_p2 pivot_p3 w K) h)

-- 34 (*holdfast/pager.Pager).use
def T34 : Ann := (.seq .none (.seq .none (.meet 34359607328 [5] (.seq .none (.seq .none (.seq .none .none))) (.seq .none (.seq (.drawT [.op 5 .pure, .op 0 .load, .op 1 .load, .op 2 .pure, .op 3 .pure, .op 4 .load, .op 6 .eff, .op 7 .eff, .op 8 .pure, .op 9 .pure, .op 10 .eff]) (.seq .none (.meet 2417851621214859839930496 [] (.seq (.drawT [.op 0 .load, .op 1 .pure, .op 2 .pure, .op 3 .load, .op 4 .pure, .op 5 .load, .op 6 .pure, .op 7 .pure, .op 8 .load, .op 9 .pure]) (.seq (.seq .none (.seq .none (.seq (.drawT [.op 5 .pure, .op 0 .load, .op 1 .load, .op 2 .pure, .op 3 .pure, .op 4 .load, .op 6 .pure, .op 7 .load, .op 8 .eff]) .none))) .none)) (.seq .none .none))))))))
theorem T34_ok : chkFn prog Try.f34 T34 = true := by kernel_rfl
def B34 (p_p0 n_p1 : Value) (w : World) (K : Value → World → Prop) : Prop :=
  efv prog (Instr.box 30 p_p0) w fun p_0 w =>
  ldv prog (Instr.loadAt 30 p_0) w fun t_1 w =>
  pv prog (oNil t_1) w fun t_2 w =>
  pvv prog (Instr.fieldAt 65 t_2 3) w fun t_3 w =>
  ldv prog (Instr.loadAt 62 t_3) w fun t_4 w =>
  ldv prog (Instr.lookup 62 t_4 n_p1 true) w fun t_5 w =>
  pvv prog (Instr.extract t_5 0) w fun t_6 w =>
  pvv prog (Instr.extract t_5 1) w fun t_7 w =>
  jn (fun σ w => pop σ fun b_8 σ => fin σ <|
    ldv prog (Instr.loadAt 30 p_0) w fun t_9 w =>
    Calls prog 27 #[t_9, n_p1] w (Ret fun t_10 w =>
    dr w fun w =>
    bindS (vN (Instr.loadAt 30 p_0)) fun m_12 => ldv prog (Instr.loadAt 30 p_0) w fun t_11 w =>
    bindS (vN (Instr.loadAt 30 p_0)) fun m_14 => ldv prog (Instr.loadAt 30 p_0) w fun t_13 w =>
    pv prog (oNil t_13) w fun t_15 w =>
    pvv prog (Instr.fieldAt 65 t_15 4) w fun t_16 w =>
    bindS (vN (Instr.loadAt 38 t_16)) fun m_18 => ldv prog (Instr.loadAt 38 t_16) w fun t_17 w =>
    efv prog (Instr.buildSlice 38 1 #[(0, n_p1)]) w fun t_19 w => stay prog none m_18 t_17 w <| stay prog none m_14 t_13 w <| stay prog none m_12 t_11 w <| 
    ef prog (oBi .append #[38, 38] 38 #[false, false] #[t_17, t_19]) w fun t_20 w => stay prog none m_12 t_11 w <| 
    pv prog (oNil t_11) w fun t_21 w =>
    pvv prog (Instr.fieldAt 65 t_21 4) w fun t_22 w =>
    efu prog (Instr.storeAt 38 t_22 t_20) w fun u_23 w =>
    ldv prog (Instr.loadAt 30 p_0) w fun t_24 w =>
    pv prog (oNil t_24) w fun t_25 w =>
    pvv prog (Instr.fieldAt 65 t_25 3) w fun t_26 w =>
    ldv prog (Instr.loadAt 62 t_26) w fun t_27 w =>
    efu prog (Instr.mapUpdate 62 t_27 n_p1 b_8) w fun u_28 w =>
    jn (fun σ w => fin σ <|
      Calls prog 26 #[b_8] w (Ret fun t_29 w =>
      K t_29 w)) fun k_30 =>
    dr w fun w =>
    bindS (vN (Instr.loadAt 30 p_0)) fun m_32 => ldv prog (Instr.loadAt 30 p_0) w fun t_31 w =>
    pv prog (oNil t_31) w fun t_33 w =>
    pvv prog (Instr.fieldAt 65 t_33 4) w fun t_34 w =>
    bindS (vN (Instr.loadAt 38 t_34)) fun m_36 => ldv prog (Instr.loadAt 38 t_34) w fun t_35 w =>
    pv prog (oBi .len #[38] 3 #[false] #[t_35]) w fun t_37 w =>
    bindS (vN (Instr.loadAt 30 p_0)) fun m_39 => ldv prog (Instr.loadAt 30 p_0) w fun t_38 w =>
    pv prog (oNil t_38) w fun t_40 w =>
    pvv prog (Instr.fieldAt 65 t_40 1) w fun t_41 w =>
    bindS (vN (Instr.loadAt 3 t_41)) fun m_43 => ldv prog (Instr.loadAt 3 t_41) w fun t_42 w =>
    pvv prog (binOp .gtr 3 t_37 t_42) w fun t_44 w =>
    cd t_44 (
      ldv prog (Instr.loadAt 30 p_0) w fun t_45 w =>
      pv prog (oNil t_45) w fun t_46 w =>
      pvv prog (Instr.fieldAt 65 t_46 4) w fun t_47 w =>
      ldv prog (Instr.loadAt 38 t_47) w fun t_48 w =>
      pvv prog (Instr.makeFunc (.func 60) #[] #[p_0]) w fun t_49 w =>
      Calls prog 59 #[t_48, t_49] w (Ret fun t_50 w =>
      pvv prog (binOp .geq 3 t_50 (.int .i64 0)) w fun t_51 w =>
      cd t_51 (
        dr w fun w =>
        bindS (vN (Instr.loadAt 30 p_0)) fun m_53 => ldv prog (Instr.loadAt 30 p_0) w fun t_52 w =>
        bindS (vN (Instr.loadAt 30 p_0)) fun m_55 => ldv prog (Instr.loadAt 30 p_0) w fun t_54 w =>
        pv prog (oNil t_54) w fun t_56 w =>
        pvv prog (Instr.fieldAt 65 t_56 4) w fun t_57 w =>
        bindS (vN (Instr.loadAt 38 t_57)) fun m_59 => ldv prog (Instr.loadAt 38 t_57) w fun t_58 w =>
        pvv prog (Instr.indexAt 38 t_58 t_50) w fun t_60 w =>
        bindS (vN (Instr.loadAt 3 t_60)) fun m_62 => ldv prog (Instr.loadAt 3 t_60) w fun t_61 w =>
        Calls prog 27 #[t_52, t_61] w (Ret fun t_63 w => stay prog none m_55 t_54 w <| 
        k_30 [] w)) <|
      k_30 [] w)) <|
    k_30 [] w)) fun k_68 =>
  cd t_7 (
    ldv prog (Instr.loadAt 30 p_0) w fun t_69 w =>
    pv prog (oNil t_69) w fun t_70 w =>
    pvv prog (Instr.fieldAt 65 t_70 6) w fun t_71 w =>
    Calls prog 57 #[t_71, (.int .i64 1)] w (Ret fun t_72 w =>
    k_68 [t_6] w)) <|
  ldv prog (Instr.loadAt 30 p_0) w fun t_73 w =>
  pv prog (oNil t_73) w fun t_74 w =>
  pvv prog (Instr.fieldAt 65 t_74 7) w fun t_75 w =>
  Calls prog 57 #[t_75, (.int .i64 1)] w (Ret fun t_76 w =>
  ldv prog (Instr.loadAt 30 p_0) w fun t_77 w =>
  pv prog (oNil t_77) w fun t_78 w =>
  pvv prog (Instr.fieldAt 65 t_78 0) w fun t_79 w =>
  ldv prog (Instr.loadAt 27 t_79) w fun t_80 w =>
  Calls prog 58 #[t_80, n_p1] w (Ret fun t_81 w =>
  pvv prog (Instr.extract t_81 0) w fun t_82 w =>
  pvv prog (Instr.extract t_81 1) w fun t_83 w =>
  k_68 [t_82] w))
theorem B34_eq (p_p0 n_p1 : Value) (w : World) (K : Value → World → Prop) : denFn prog Try.f34 T34 [p_p0, n_p1] w K = B34 p_p0 n_p1 w K := by kernel_rfl
theorem c34 {p_p0 n_p1 : Value} {w : World} {K : Value → World → Prop} (h : B34 p_p0 n_p1 w K) : Calls prog 34 #[p_p0, n_p1] w (Ret K) :=
  denFn_calls Try.func34 T34_ok (Eq.mpr (B34_eq p_p0 n_p1 w K) h)

-- 13 (*holdfast/block.Disk).Cut
def T13 : Ann := (.seq .none (.seq (.block (.seq .none (.seq (.seq .none .none) (.seq .none (.seq (.seq .none .none) .none))))) (.seq .none (.seq (.seq .none (.block (.range .none (.block (.draw [.op 1 .pure, .op 3 .pure, .op 0 .load, .op 2 .load, .op 4 .load, .op 5 .eff, .op 6 .pure, .op 7 .eff]))))) (.seq .none .none)))))
theorem T13_ok : chkFn prog Try.f13 T13 = true := by kernel_rfl
def B13 (d_p0 k_p1 : Value) (w : World) (K : Value → World → Prop) : Prop :=
  pvv prog (oEq .eql 23 (.tmp 10) (.const (.pointer none)) d_p0 (.pointer none)) w fun t_0 w =>
  cd t_0 (
    K (.tuple #[(.pointer none), (.int .i64 1)]) w) <|
  pvv prog (binOp .lss 3 k_p1 (.int .i64 0)) w fun t_1 w =>
  gate (some (t_1, false)) (fun K => K k_p1 w) w fun t_2 w =>
  gate (some (t_1, false)) (fun K => K d_p0 w) w fun t_3 w =>
  gate (some (t_1, false)) (fun K => pv prog (oNil t_3) w K) w fun t_4 w =>
  gate (some (t_1, false)) (fun K => pvv prog (Instr.fieldAt 51 t_4 1) w K) w fun t_5 w =>
  gate (some (t_1, false)) (fun K => ldv prog (Instr.loadAt 44 t_5) w K) w fun t_6 w =>
  gate (some (t_1, false)) (fun K => pv prog (oBi .len #[44] 3 #[false] #[t_6]) w K) w fun t_7 w =>
  gate (some (t_1, false)) (fun K => pvv prog (binOp .gtr 3 t_2 t_7) w K) w fun t_8 w =>
  pv prog (oPick t_1 (.bool true) t_8) w fun t_9 w =>
  cd t_9 (
    K (.tuple #[(.pointer none), (.int .i64 2)]) w) <|
  pv prog (oNil d_p0) w fun t_10 w =>
  pvv prog (Instr.fieldAt 51 t_10 0) w fun t_11 w =>
  ldv prog (Instr.loadAt 22 t_11) w fun t_12 w =>
  Calls prog 32 #[t_12] w (Ret fun t_13 w =>
  efv prog (Instr.alloc 22 true (.tuple #[])) w fun out_14 w =>
  efu prog (Instr.storeAt 22 out_14 t_13) w fun u_15 w =>
  pv prog (oNil d_p0) w fun t_16 w =>
  pvv prog (Instr.fieldAt 51 t_16 1) w fun t_17 w =>
  ldv prog (Instr.loadAt 44 t_17) w fun t_18 w =>
  pvv prog (Instr.sliceAt 44 t_18 (some k_p1) none none) w fun t_19 w =>
  Calls prog 33 #[t_19] w (Ret fun t_20 w =>
  rng prog 2 t_20 (fun σ w bg_23 ex_24 => pop σ fun t_21 σ => pop σ fun t_22 σ => fin σ <|
    efv prog (Instr.alloc 84 true (.tuple #[])) w fun w_25 w =>
    efu prog (Instr.storeAt 84 w_25 t_22) w fun u_26 w =>
    bg_23 w fun w =>
    dr w fun w =>
    pvv prog (Instr.fieldAt 84 w_25 0) w fun t_27 w =>
    pvv prog (Instr.fieldAt 84 w_25 1) w fun t_28 w =>
    bindS (vN (Instr.loadAt 22 out_14)) fun m_30 => ldv prog (Instr.loadAt 22 out_14) w fun t_29 w =>
    bindS (vN (Instr.loadAt 3 t_27)) fun m_32 => ldv prog (Instr.loadAt 3 t_27) w fun t_31 w =>
    bindS (vN (Instr.loadAt 33 t_28)) fun m_34 => ldv prog (Instr.loadAt 33 t_28) w fun t_33 w =>
    Calls prog 26 #[t_33] w (Ret fun t_35 w => stay prog none m_32 t_31 w <| stay prog none m_30 t_29 w <| 
    pvv prog (Instr.indexAt 22 t_29 t_31) w fun t_36 w =>
    efu prog (Instr.storeAt 33 t_36 t_35) w fun u_37 w =>
    ex_24 .normal w)) w fun p_41 D_40 w =>
  jump (
    ldv prog (Instr.loadAt 22 out_14) w fun t_42 w =>
    pvv prog (Instr.build 51 #[(0, t_42)]) w fun t_43 w =>
    efv prog (Instr.box 51 t_43) w fun t_44 w =>
    und [D_40] w fun w => K (.tuple #[t_44, (.int .i64 0)]) w) (
    und [D_40] w fun w => K (.tuple #[(.pointer none), (.int .i64 0)]) w) [] p_41))
theorem B13_eq (d_p0 k_p1 : Value) (w : World) (K : Value → World → Prop) : denFn prog Try.f13 T13 [d_p0, k_p1] w K = B13 d_p0 k_p1 w K := by kernel_rfl
theorem c13 {d_p0 k_p1 : Value} {w : World} {K : Value → World → Prop} (h : B13 d_p0 k_p1 w K) : Calls prog 13 #[d_p0, k_p1] w (Ret K) :=
  denFn_calls Try.func13 T13_ok (Eq.mpr (B13_eq d_p0 k_p1 w K) h)

-- 72 slices.heapSortOrdered[int]
def T72 : Ann := (.seq .none (.seq .none (.seq .none (.seq (.seq .none (.block (.loop 133956096 [9] (.seq (.seq .none (.seq .none .none)) (.seq (.block .none) .none))))) (.seq .none (.block (.loop 72057593501058048 [10] (.seq (.seq .none (.seq .none .none)) (.seq (.block (.seq (.draw [.op 0 .pure, .op 1 .pure, .op 2 .pure, .op 3 .pure, .op 4 .pure, .op 5 .pure, .op 6 .pure, .op 7 .pure, .op 8 .pure, .op 9 .pure, .op 10 .pure, .op 12 .pure, .op 13 .pure, .op 14 .pure, .op 11 .load, .op 15 .load, .op 16 .pure, .op 17 .eff, .op 18 .pure, .op 19 .eff]) .none)) .none)))))))))
theorem T72_ok : chkFn prog Try.f72 T72 = true := by kernel_rfl
def B72 (data_p0 a_p1 b_p2 : Value) (w : World) (K : Value → World → Prop) : Prop :=
  pvv prog (binOp .sub 3 b_p2 a_p1) w fun t_0 w =>
  pvv prog (binOp .sub 3 t_0 (.int .i64 1)) w fun t_1 w =>
  pvv prog (binOp .quo 3 t_1 (.int .i64 2)) w fun t_2 w =>
  lp (fun σ w again_4 => pop σ fun i_3 σ => fin σ <|
    pvv prog (binOp .geq 3 i_3 (.int .i64 0)) w fun t_5 w =>
    cd t_5 (
      Calls prog 83 #[data_p0, i_3, t_0, a_p1] w (Ret fun t_6 w =>
      pvv prog (binOp .sub 3 i_3 (.int .i64 1)) w fun t_7 w =>
      again_4 [t_7] w)) <|
    pvv prog (binOp .sub 3 t_0 (.int .i64 1)) w fun t_8 w =>
    lp (fun σ w again_10 => pop σ fun i_9 σ => fin σ <|
      pvv prog (binOp .geq 3 i_9 (.int .i64 0)) w fun t_11 w =>
      cd t_11 (
        dr w fun w =>
        pvv prog (binOp .add 3 a_p1 i_9) w fun t_12 w =>
        pvv prog (binOp .add 3 a_p1 i_9) w fun t_13 w =>
        pvv prog (Instr.indexAt 38 data_p0 t_13) w fun t_14 w =>
        pvv prog (Instr.indexAt 38 data_p0 a_p1) w fun t_15 w =>
        bindS (vN (Instr.loadAt 3 t_14)) fun m_17 => ldv prog (Instr.loadAt 3 t_14) w fun t_16 w =>
        bindS (vN (Instr.loadAt 3 t_15)) fun m_19 => ldv prog (Instr.loadAt 3 t_15) w fun t_18 w =>
        pvv prog (Instr.indexAt 38 data_p0 a_p1) w fun t_20 w =>
        efu prog (Instr.storeAt 3 t_20 t_16) w fun u_21 w =>
        pvv prog (Instr.indexAt 38 data_p0 t_12) w fun t_22 w =>
        efu prog (Instr.storeAt 3 t_22 t_18) w fun u_23 w =>
        Calls prog 83 #[data_p0, (.int .i64 0), i_9, a_p1] w (Ret fun t_24 w =>
        pvv prog (binOp .sub 3 i_9 (.int .i64 1)) w fun t_25 w =>
        again_10 [t_25] w)) <|
      K (.tuple #[]) w) [t_8] w) [t_2] w
theorem B72_eq (data_p0 a_p1 b_p2 : Value) (w : World) (K : Value → World → Prop) : denFn prog Try.f72 T72 [data_p0, a_p1, b_p2] w K = B72 data_p0 a_p1 b_p2 w K := by kernel_rfl
theorem c72 {data_p0 a_p1 b_p2 : Value} {w : World} {K : Value → World → Prop} (h : B72 data_p0 a_p1 b_p2 w K) : Calls prog 72 #[data_p0, a_p1, b_p2] w (Ret K) :=
  denFn_calls Try.func72 T72_ok (Eq.mpr (B72_eq data_p0 a_p1 b_p2 w K) h)

-- 85 (*slices.xorshift).Next
def T85 : Ann := (.seq .none (.seq (.draw [.op 0 .pure, .op 1 .pure, .op 3 .pure, .op 4 .pure, .op 2 .load, .op 5 .load, .op 6 .pure, .op 7 .pure, .op 8 .pure, .op 9 .eff]) (.seq (.draw [.op 0 .pure, .op 1 .pure, .op 3 .pure, .op 4 .pure, .op 2 .load, .op 5 .load, .op 6 .pure, .op 7 .pure, .op 8 .pure, .op 9 .eff]) (.seq (.draw [.op 0 .pure, .op 1 .pure, .op 3 .pure, .op 4 .pure, .op 2 .load, .op 5 .load, .op 6 .pure, .op 7 .pure, .op 8 .pure, .op 9 .eff]) (.seq .none .none)))))
theorem T85_ok : chkFn prog Try.f85 T85 = true := by kernel_rfl
def B85 (r_p0 : Value) (w : World) (K : Value → World → Prop) : Prop :=
  dr w fun w =>
  pv prog (oNil r_p0) w fun t_0 w =>
  pv prog (oNil r_p0) w fun t_1 w =>
  bindS (vN (Instr.loadAt 126 t_0)) fun m_3 => ldv prog (Instr.loadAt 126 t_0) w fun t_2 w =>
  bindS (vN (Instr.loadAt 126 t_1)) fun m_5 => ldv prog (Instr.loadAt 126 t_1) w fun t_4 w =>
  pvv prog (binOp .shl 126 t_4 (.int .u64 13)) w fun t_6 w =>
  pvv prog (binOp .xor 126 t_2 t_6) w fun t_7 w =>
  pv prog (oNil r_p0) w fun t_8 w =>
  efu prog (Instr.storeAt 126 t_8 t_7) w fun u_9 w =>
  dr w fun w =>
  pv prog (oNil r_p0) w fun t_10 w =>
  pv prog (oNil r_p0) w fun t_11 w =>
  bindS (vN (Instr.loadAt 126 t_10)) fun m_13 => ldv prog (Instr.loadAt 126 t_10) w fun t_12 w =>
  bindS (vN (Instr.loadAt 126 t_11)) fun m_15 => ldv prog (Instr.loadAt 126 t_11) w fun t_14 w =>
  pvv prog (binOp .shr 126 t_14 (.int .u64 7)) w fun t_16 w =>
  pvv prog (binOp .xor 126 t_12 t_16) w fun t_17 w =>
  pv prog (oNil r_p0) w fun t_18 w =>
  efu prog (Instr.storeAt 126 t_18 t_17) w fun u_19 w =>
  dr w fun w =>
  pv prog (oNil r_p0) w fun t_20 w =>
  pv prog (oNil r_p0) w fun t_21 w =>
  bindS (vN (Instr.loadAt 126 t_20)) fun m_23 => ldv prog (Instr.loadAt 126 t_20) w fun t_22 w =>
  bindS (vN (Instr.loadAt 126 t_21)) fun m_25 => ldv prog (Instr.loadAt 126 t_21) w fun t_24 w =>
  pvv prog (binOp .shl 126 t_24 (.int .u64 17)) w fun t_26 w =>
  pvv prog (binOp .xor 126 t_22 t_26) w fun t_27 w =>
  pv prog (oNil r_p0) w fun t_28 w =>
  efu prog (Instr.storeAt 126 t_28 t_27) w fun u_29 w =>
  pv prog (oNil r_p0) w fun t_30 w =>
  ldv prog (Instr.loadAt 126 t_30) w fun t_31 w =>
  K t_31 w
theorem B85_eq (r_p0 : Value) (w : World) (K : Value → World → Prop) : denFn prog Try.f85 T85 [r_p0] w K = B85 r_p0 w K := by kernel_rfl
theorem c85 {r_p0 : Value} {w : World} {K : Value → World → Prop} (h : B85 r_p0 w K) : Calls prog 85 #[r_p0] w (Ret K) :=
  denFn_calls Try.func85 T85_ok (Eq.mpr (B85_eq r_p0 w K) h)

-- 54 (*holdfast/wal.Log).head
def T54 : Ann := (.seq .none (.seq .none (.seq (.draw [.op 0 .pure, .op 1 .pure, .op 2 .pure, .op 3 .pure, .op 4 .pure, .op 5 .load, .op 6 .eff]) (.seq (.draw [.op 0 .pure, .op 1 .pure, .op 2 .pure, .op 3 .pure, .op 4 .pure, .op 5 .load, .op 6 .eff]) .none))))
theorem T54_ok : chkFn prog Try.f54 T54 = true := by kernel_rfl
def B54 (l_p0 : Value) (w : World) (K : Value → World → Prop) : Prop :=
  efv prog (Instr.makeSlice 33 (.int .i64 256) (.int .i64 256)) w fun t_0 w =>
  pvv prog (Instr.indexAt 33 t_0 (.int .i64 0)) w fun t_1 w =>
  efu prog (Instr.storeAt 5 t_1 (.int .u8 72)) w fun u_2 w =>
  pvv prog (Instr.indexAt 33 t_0 (.int .i64 1)) w fun t_3 w =>
  efu prog (Instr.storeAt 5 t_3 (.int .u8 70)) w fun u_4 w =>
  dr w fun w =>
  pvv prog (Instr.sliceAt 33 t_0 (some (.int .i64 2)) (some (.int .i64 10)) none) w fun t_5 w =>
  pv prog (oNil l_p0) w fun t_6 w =>
  pvv prog (Instr.fieldAt 58 t_6 2) w fun t_7 w =>
  bindS (vN (Instr.loadAt 3 t_7)) fun m_9 => ldv prog (Instr.loadAt 3 t_7) w fun t_8 w =>
  Calls prog 52 #[t_5, t_8] w (Ret fun t_10 w =>
  dr w fun w =>
  pvv prog (Instr.sliceAt 33 t_0 (some (.int .i64 10)) (some (.int .i64 12)) none) w fun t_11 w =>
  pv prog (oNil l_p0) w fun t_12 w =>
  pvv prog (Instr.fieldAt 58 t_12 3) w fun t_13 w =>
  bindS (vN (Instr.loadAt 3 t_13)) fun m_15 => ldv prog (Instr.loadAt 3 t_13) w fun t_14 w =>
  Calls prog 52 #[t_11, t_14] w (Ret fun t_16 w =>
  pv prog (oNil l_p0) w fun t_17 w =>
  pvv prog (Instr.fieldAt 58 t_17 0) w fun t_18 w =>
  pvv prog (Instr.fieldAt 55 t_18 0) w fun t_19 w =>
  ldv prog (Instr.loadAt 23 t_19) w fun t_20 w =>
  Calls prog 53 #[t_20, (.int .i64 0), t_0] w (Ret fun t_21 w =>
  K (.tuple #[]) w)))
theorem B54_eq (l_p0 : Value) (w : World) (K : Value → World → Prop) : denFn prog Try.f54 T54 [l_p0] w K = B54 l_p0 w K := by kernel_rfl
theorem c54 {l_p0 : Value} {w : World} {K : Value → World → Prop} (h : B54 l_p0 w K) : Calls prog 54 #[l_p0] w (Ret K) :=
  denFn_calls Try.func54 T54_ok (Eq.mpr (B54_eq l_p0 w K) h)

-- 18 (*holdfast/block.Disk).Read
def T18 : Ann := (.seq .none (.seq (.block (.seq .none (.seq (.seq .none .none) (.seq .none (.seq (.seq .none .none) .none))))) (.seq .none .none)))
theorem T18_ok : chkFn prog Try.f18 T18 = true := by kernel_rfl
def B18 (d_p0 n_p1 : Value) (w : World) (K : Value → World → Prop) : Prop :=
  pvv prog (oEq .eql 23 (.tmp 7) (.const (.pointer none)) d_p0 (.pointer none)) w fun t_0 w =>
  cd t_0 (
    K (.tuple #[(.slice none 0 0), (.int .i64 1)]) w) <|
  pvv prog (binOp .lss 3 n_p1 (.int .i64 0)) w fun t_1 w =>
  gate (some (t_1, false)) (fun K => K n_p1 w) w fun t_2 w =>
  gate (some (t_1, false)) (fun K => K d_p0 w) w fun t_3 w =>
  gate (some (t_1, false)) (fun K => pv prog (oNil t_3) w K) w fun t_4 w =>
  gate (some (t_1, false)) (fun K => pvv prog (Instr.fieldAt 51 t_4 0) w K) w fun t_5 w =>
  gate (some (t_1, false)) (fun K => ldv prog (Instr.loadAt 22 t_5) w K) w fun t_6 w =>
  gate (some (t_1, false)) (fun K => pv prog (oBi .len #[22] 3 #[false] #[t_6]) w K) w fun t_7 w =>
  gate (some (t_1, false)) (fun K => pvv prog (binOp .geq 3 t_2 t_7) w K) w fun t_8 w =>
  pv prog (oPick t_1 (.bool true) t_8) w fun t_9 w =>
  cd t_9 (
    K (.tuple #[(.slice none 0 0), (.int .i64 2)]) w) <|
  pv prog (oNil d_p0) w fun t_10 w =>
  pvv prog (Instr.fieldAt 51 t_10 0) w fun t_11 w =>
  ldv prog (Instr.loadAt 22 t_11) w fun t_12 w =>
  pvv prog (Instr.indexAt 22 t_12 n_p1) w fun t_13 w =>
  ldv prog (Instr.loadAt 33 t_13) w fun t_14 w =>
  Calls prog 26 #[t_14] w (Ret fun t_15 w =>
  K (.tuple #[t_15, (.int .i64 0)]) w)
theorem B18_eq (d_p0 n_p1 : Value) (w : World) (K : Value → World → Prop) : denFn prog Try.f18 T18 [d_p0, n_p1] w K = B18 d_p0 n_p1 w K := by kernel_rfl
theorem c18 {d_p0 n_p1 : Value} {w : World} {K : Value → World → Prop} (h : B18 d_p0 n_p1 w K) : Calls prog 18 #[d_p0, n_p1] w (Ret K) :=
  denFn_calls Try.func18 T18_ok (Eq.mpr (B18_eq d_p0 n_p1 w K) h)

-- 16 holdfast/block.Load
def T16 : Ann := (.seq .none (.seq (.block (.seq .none (.seq (.seq .none .none) (.seq .none (.seq (.seq .none .none) .none))))) (.seq .none .none)))
theorem T16_ok : chkFn prog Try.f16 T16 = true := by kernel_rfl
def B16 (image_p0 : Value) (w : World) (K : Value → World → Prop) : Prop :=
  pv prog (oBi .len #[22] 3 #[false] #[image_p0]) w fun t_0 w =>
  pvv prog (binOp .lss 3 t_0 (.int .i64 1)) w fun t_1 w =>
  gate (some (t_1, false)) (fun K => K image_p0 w) w fun t_2 w =>
  gate (some (t_1, false)) (fun K => pv prog (oBi .len #[22] 3 #[false] #[t_2]) w K) w fun t_3 w =>
  gate (some (t_1, false)) (fun K => pvv prog (binOp .gtr 3 t_3 (.int .i64 1024)) w K) w fun t_4 w =>
  pv prog (oPick t_1 (.bool true) t_4) w fun t_5 w =>
  cd t_5 (
    K (.tuple #[(.pointer none), (.int .i64 2)]) w) <|
  Calls prog 35 #[image_p0, (.func (.func 36) #[] #[])] w (Ret fun t_6 w =>
  cd t_6 (
    K (.tuple #[(.pointer none), (.int .i64 3)]) w) <|
  Calls prog 32 #[image_p0] w (Ret fun t_7 w =>
  pvv prog (Instr.build 51 #[(0, t_7)]) w fun t_8 w =>
  efv prog (Instr.box 51 t_8) w fun t_9 w =>
  K (.tuple #[t_9, (.int .i64 0)]) w))
theorem B16_eq (image_p0 : Value) (w : World) (K : Value → World → Prop) : denFn prog Try.f16 T16 [image_p0] w K = B16 image_p0 w K := by kernel_rfl
theorem c16 {image_p0 : Value} {w : World} {K : Value → World → Prop} (h : B16 image_p0 w K) : Calls prog 16 #[image_p0] w (Ret K) :=
  denFn_calls Try.func16 T16_ok (Eq.mpr (B16_eq image_p0 w K) h)

-- 14 (*holdfast/pager.Pager).Read
def T14 : Ann := (.seq .none (.seq (.seq .none (.seq .none (.seq (.seq .none .none) .none))) (.seq (.seq .none (.seq .none (.seq (.seq .none .none) .none))) (.seq .none .none))))
theorem T14_ok : chkFn prog Try.f14 T14 = true := by kernel_rfl
def B14 (p_p0 n_p1 : Value) (w : World) (K : Value → World → Prop) : Prop :=
  Calls prog 25 #[p_p0, n_p1] w (Ret fun t_0 w =>
  pvv prog (oEq .neq 24 (.tmp 12) (.const (.int .i64 0)) t_0 (.int .i64 0)) w fun t_1 w =>
  cd t_1 (
    K (.tuple #[(.slice none 0 0), t_0]) w) <|
  pv prog (oNil p_p0) w fun t_2 w =>
  pvv prog (Instr.fieldAt 65 t_2 2) w fun t_3 w =>
  ldv prog (Instr.loadAt 62 t_3) w fun t_4 w =>
  ldv prog (Instr.lookup 62 t_4 n_p1 true) w fun t_5 w =>
  pvv prog (Instr.extract t_5 0) w fun t_6 w =>
  pvv prog (Instr.extract t_5 1) w fun t_7 w =>
  cd t_7 (
    Calls prog 26 #[t_6] w (Ret fun t_8 w =>
    K (.tuple #[t_8, (.int .i64 0)]) w)) <|
  Calls prog 34 #[p_p0, n_p1] w (Ret fun t_9 w =>
  K (.tuple #[t_9, (.int .i64 0)]) w))
theorem B14_eq (p_p0 n_p1 : Value) (w : World) (K : Value → World → Prop) : denFn prog Try.f14 T14 [p_p0, n_p1] w K = B14 p_p0 n_p1 w K := by kernel_rfl
theorem c14 {p_p0 n_p1 : Value} {w : World} {K : Value → World → Prop} (h : B14 p_p0 n_p1 w K) : Calls prog 14 #[p_p0, n_p1] w (Ret K) :=
  denFn_calls Try.func14 T14_ok (Eq.mpr (B14_eq p_p0 n_p1 w K) h)

-- 67 slices.IndexFunc[[]holdfast/api.Page,holdfast/api.Page]
def T67 : Ann := (.seq .none (.seq (.seq .none (.block (.loop 524080 [8] (.seq .none (.seq (.seq .none .none) (.seq (.block (.seq .none (.seq .none (.seq (.seq .none .none) .none)))) .none)))))) (.seq .none .none)))
theorem T67_ok : chkFn prog Try.f67 T67 = true := by kernel_rfl
def B67 (s_p0 f_p1 : Value) (w : World) (K : Value → World → Prop) : Prop :=
  pv prog (oBi .len #[75] 3 #[false] #[s_p0]) w fun t_0 w =>
  lp (fun σ w again_2 => pop σ fun t_1 σ => fin σ <|
    pvv prog (binOp .lss 3 t_1 t_0) w fun t_3 w =>
    cd t_3 (
      pvv prog (Instr.indexAt 75 s_p0 t_1) w fun t_4 w =>
      ldv prog (Instr.loadAt 77 t_4) w fun t_5 w =>
      ef prog (oCall f_p1 #[t_5]) w fun t_6 w =>
      cd t_6 (
        K t_1 w) <|
      pvv prog (binOp .add 3 t_1 (.int .i64 1)) w fun t_7 w =>
      again_2 [t_7] w) <|
    K (.int .i64 (-1)) w) [(.int .i64 0)] w
theorem B67_eq (s_p0 f_p1 : Value) (w : World) (K : Value → World → Prop) : denFn prog Try.f67 T67 [s_p0, f_p1] w K = B67 s_p0 f_p1 w K := by kernel_rfl
theorem c67 {s_p0 f_p1 : Value} {w : World} {K : Value → World → Prop} (h : B67 s_p0 f_p1 w K) : Calls prog 67 #[s_p0, f_p1] w (Ret K) :=
  denFn_calls Try.func67 T67_ok (Eq.mpr (B67_eq s_p0 f_p1 w K) h)

-- 62 slices.IndexFunc[[]byte,byte]
def T62 : Ann := (.seq .none (.seq (.seq .none (.block (.loop 524080 [8] (.seq .none (.seq (.seq .none .none) (.seq (.block (.seq .none (.seq .none (.seq (.seq .none .none) .none)))) .none)))))) (.seq .none .none)))
theorem T62_ok : chkFn prog Try.f62 T62 = true := by kernel_rfl
def B62 (s_p0 f_p1 : Value) (w : World) (K : Value → World → Prop) : Prop :=
  pv prog (oBi .len #[33] 3 #[false] #[s_p0]) w fun t_0 w =>
  lp (fun σ w again_2 => pop σ fun t_1 σ => fin σ <|
    pvv prog (binOp .lss 3 t_1 t_0) w fun t_3 w =>
    cd t_3 (
      pvv prog (Instr.indexAt 33 s_p0 t_1) w fun t_4 w =>
      ldv prog (Instr.loadAt 5 t_4) w fun t_5 w =>
      ef prog (oCall f_p1 #[t_5]) w fun t_6 w =>
      cd t_6 (
        K t_1 w) <|
      pvv prog (binOp .add 3 t_1 (.int .i64 1)) w fun t_7 w =>
      again_2 [t_7] w) <|
    K (.int .i64 (-1)) w) [(.int .i64 0)] w
theorem B62_eq (s_p0 f_p1 : Value) (w : World) (K : Value → World → Prop) : denFn prog Try.f62 T62 [s_p0, f_p1] w K = B62 s_p0 f_p1 w K := by kernel_rfl
theorem c62 {s_p0 f_p1 : Value} {w : World} {K : Value → World → Prop} (h : B62 s_p0 f_p1 w K) : Calls prog 62 #[s_p0, f_p1] w (Ret K) :=
  denFn_calls Try.func62 T62_ok (Eq.mpr (B62_eq s_p0 f_p1 w K) h)

-- 21 holdfast/wal.two
def T21 : Ann := (.seq .none (.seq (.draw [.op 0 .pure, .op 1 .pure, .op 5 .pure, .op 6 .pure, .op 2 .load, .op 3 .pure, .op 4 .pure, .op 7 .load, .op 8 .pure, .op 9 .pure, .op 10 .pure]) .none))
theorem T21_ok : chkFn prog Try.f21 T21 = true := by kernel_rfl
def B21 (b_p0 : Value) (w : World) (K : Value → World → Prop) : Prop :=
  dr w fun w =>
  pvv prog (Instr.indexAt 33 b_p0 (.int .i64 0)) w fun t_0 w =>
  pvv prog (Instr.indexAt 33 b_p0 (.int .i64 1)) w fun t_1 w =>
  bindS (vN (Instr.loadAt 5 t_0)) fun m_3 => ldv prog (Instr.loadAt 5 t_0) w fun t_2 w =>
  pvv prog (convert 5 3 t_2) w fun t_4 w =>
  pvv prog (binOp .shl 3 t_4 (.int .u64 8)) w fun t_5 w =>
  bindS (vN (Instr.loadAt 5 t_1)) fun m_7 => ldv prog (Instr.loadAt 5 t_1) w fun t_6 w =>
  pvv prog (convert 5 3 t_6) w fun t_8 w =>
  pvv prog (binOp .or 3 t_5 t_8) w fun t_9 w =>
  K t_9 w
theorem B21_eq (b_p0 : Value) (w : World) (K : Value → World → Prop) : denFn prog Try.f21 T21 [b_p0] w K = B21 b_p0 w K := by kernel_rfl
theorem c21 {b_p0 : Value} {w : World} {K : Value → World → Prop} (h : B21 b_p0 w K) : Calls prog 21 #[b_p0] w (Ret K) :=
  denFn_calls Try.func21 T21_ok (Eq.mpr (B21_eq b_p0 w K) h)

-- 55 (*holdfast/wal.Log).Touched
def T55 : Ann := (.seq .none (.seq (.seq .none (.seq (.seq .none .none) .none)) (.seq .none .none)))
theorem T55_ok : chkFn prog Try.f55 T55 = true := by kernel_rfl
def B55 (l_p0 : Value) (w : World) (K : Value → World → Prop) : Prop :=
  pvv prog (oEq .eql 27 (.tmp 3) (.const (.pointer none)) l_p0 (.pointer none)) w fun t_0 w =>
  cd t_0 (
    K (.slice none 0 0) w) <|
  pv prog (oNil l_p0) w fun t_1 w =>
  pvv prog (Instr.fieldAt 58 t_1 4) w fun t_2 w =>
  ldv prog (Instr.loadAt 56 t_2) w fun t_3 w =>
  Calls prog 68 #[t_3] w (Ret fun t_4 w =>
  Calls prog 28 #[t_4] w (Ret fun t_5 w =>
  K t_5 w))
theorem B55_eq (l_p0 : Value) (w : World) (K : Value → World → Prop) : denFn prog Try.f55 T55 [l_p0] w K = B55 l_p0 w K := by kernel_rfl
theorem c55 {l_p0 : Value} {w : World} {K : Value → World → Prop} (h : B55 l_p0 w K) : Calls prog 55 #[l_p0] w (Ret K) :=
  denFn_calls Try.func55 T55_ok (Eq.mpr (B55_eq l_p0 w K) h)

-- 15 (*holdfast/block.Disk).Blocks
def T15 : Ann := (.seq .none (.seq (.seq .none (.seq (.seq .none .none) .none)) (.seq .none .none)))
theorem T15_ok : chkFn prog Try.f15 T15 = true := by kernel_rfl
def B15 (d_p0 : Value) (w : World) (K : Value → World → Prop) : Prop :=
  pvv prog (oEq .eql 23 (.tmp 3) (.const (.pointer none)) d_p0 (.pointer none)) w fun t_0 w =>
  cd t_0 (
    K (.int .i64 0) w) <|
  pv prog (oNil d_p0) w fun t_1 w =>
  pvv prog (Instr.fieldAt 51 t_1 0) w fun t_2 w =>
  ldv prog (Instr.loadAt 22 t_2) w fun t_3 w =>
  pv prog (oBi .len #[22] 3 #[false] #[t_3]) w fun t_4 w =>
  K t_4 w
theorem B15_eq (d_p0 : Value) (w : World) (K : Value → World → Prop) : denFn prog Try.f15 T15 [d_p0] w K = B15 d_p0 w K := by kernel_rfl
theorem c15 {d_p0 : Value} {w : World} {K : Value → World → Prop} (h : B15 d_p0 w K) : Calls prog 15 #[d_p0] w (Ret K) :=
  denFn_calls Try.func15 T15_ok (Eq.mpr (B15_eq d_p0 w K) h)

-- 40 slices.Clone[[][]byte,[]byte]
def T40 : Ann := (.seq .none (.seq (.seq .none (.seq (.seq .none .none) .none)) (.seq .none .none)))
theorem T40_ok : chkFn prog Try.f40 T40 = true := by kernel_rfl
def B40 (s_p0 : Value) (w : World) (K : Value → World → Prop) : Prop :=
  pvv prog (oEq .eql 22 (.tmp 3) (.const (.slice none 0 0)) s_p0 (.slice none 0 0)) w fun t_0 w =>
  cd t_0 (
    K (.slice none 0 0) w) <|
  efv prog (Instr.buildSlice 22 0 #[]) w fun t_1 w =>
  ef prog (oBi .append #[22, 22] 22 #[false, false] #[t_1, s_p0]) w fun t_2 w =>
  K t_2 w
theorem B40_eq (s_p0 : Value) (w : World) (K : Value → World → Prop) : denFn prog Try.f40 T40 [s_p0] w K = B40 s_p0 w K := by kernel_rfl
theorem c40 {s_p0 : Value} {w : World} {K : Value → World → Prop} (h : B40 s_p0 w K) : Calls prog 40 #[s_p0] w (Ret K) :=
  denFn_calls Try.func40 T40_ok (Eq.mpr (B40_eq s_p0 w K) h)

-- 9 (*holdfast/block.Disk).Count
def T9 : Ann := (.seq .none (.seq (.seq .none (.seq (.seq .none .none) .none)) (.seq .none .none)))
theorem T9_ok : chkFn prog Try.f9 T9 = true := by kernel_rfl
def B9 (d_p0 : Value) (w : World) (K : Value → World → Prop) : Prop :=
  pvv prog (oEq .eql 23 (.tmp 3) (.const (.pointer none)) d_p0 (.pointer none)) w fun t_0 w =>
  cd t_0 (
    K (.int .i64 0) w) <|
  pv prog (oNil d_p0) w fun t_1 w =>
  pvv prog (Instr.fieldAt 51 t_1 2) w fun t_2 w =>
  Calls prog 24 #[t_2] w (Ret fun t_3 w =>
  K t_3 w)
theorem B9_eq (d_p0 : Value) (w : World) (K : Value → World → Prop) : denFn prog Try.f9 T9 [d_p0] w K = B9 d_p0 w K := by kernel_rfl
theorem c9 {d_p0 : Value} {w : World} {K : Value → World → Prop} (h : B9 d_p0 w K) : Calls prog 9 #[d_p0] w (Ret K) :=
  denFn_calls Try.func9 T9_ok (Eq.mpr (B9_eq d_p0 w K) h)

-- 66 math/bits.Len
def T66 : Ann := (.seq .none (.seq (.seq (.seq .none .none) .none) (.seq .none .none)))
theorem T66_ok : chkFn prog Try.f66 T66 = true := by kernel_rfl
def B66 (x_p0 : Value) (w : World) (K : Value → World → Prop) : Prop :=
  cd (.bool false) (
    pvv prog (convert 89 123 x_p0) w fun t_0 w =>
    Calls prog 80 #[t_0] w (Ret fun t_1 w =>
    K t_1 w)) <|
  Calls prog 81 #[x_p0] w (Ret fun t_2 w =>
  K t_2 w)
theorem B66_eq (x_p0 : Value) (w : World) (K : Value → World → Prop) : denFn prog Try.f66 T66 [x_p0] w K = B66 x_p0 w K := by kernel_rfl
theorem c66 {x_p0 : Value} {w : World} {K : Value → World → Prop} (h : B66 x_p0 w K) : Calls prog 66 #[x_p0] w (Ret K) :=
  denFn_calls Try.func66 T66_ok (Eq.mpr (B66_eq x_p0 w K) h)

-- 37 slices.ContainsFunc[[]byte,byte]
def T37 : Ann := (.seq .none (.seq .none .none))
theorem T37_ok : chkFn prog Try.f37 T37 = true := by kernel_rfl
def B37 (s_p0 f_p1 : Value) (w : World) (K : Value → World → Prop) : Prop :=
  Calls prog 62 #[s_p0, f_p1] w (Ret fun t_0 w =>
  pvv prog (binOp .geq 3 t_0 (.int .i64 0)) w fun t_1 w =>
  K t_1 w)
theorem B37_eq (s_p0 f_p1 : Value) (w : World) (K : Value → World → Prop) : denFn prog Try.f37 T37 [s_p0, f_p1] w K = B37 s_p0 f_p1 w K := by kernel_rfl
theorem c37 {s_p0 f_p1 : Value} {w : World} {K : Value → World → Prop} (h : B37 s_p0 f_p1 w K) : Calls prog 37 #[s_p0, f_p1] w (Ret K) :=
  denFn_calls Try.func37 T37_ok (Eq.mpr (B37_eq s_p0 f_p1 w K) h)

-- 28 slices.Sorted[int]
def T28 : Ann := (.seq .none (.seq .none (.seq .none (.seq .none .none))))
theorem T28_ok : chkFn prog Try.f28 T28 = true := by kernel_rfl
def B28 (seq_p0 : Value) (w : World) (K : Value → World → Prop) : Prop :=
  Calls prog 46 #[seq_p0] w (Ret fun t_0 w =>
  Calls prog 47 #[t_0] w (Ret fun t_1 w =>
  K t_0 w))
theorem B28_eq (seq_p0 : Value) (w : World) (K : Value → World → Prop) : denFn prog Try.f28 T28 [seq_p0] w K = B28 seq_p0 w K := by kernel_rfl
theorem c28 {seq_p0 : Value} {w : World} {K : Value → World → Prop} (h : B28 seq_p0 w K) : Calls prog 28 #[seq_p0] w (Ret K) :=
  denFn_calls Try.func28 T28_ok (Eq.mpr (B28_eq seq_p0 w K) h)

-- 19 holdfast/wal.zeros
def T19 : Ann := (.seq .none (.seq .none .none))
theorem T19_ok : chkFn prog Try.f19 T19 = true := by kernel_rfl
def B19 (b_p0 : Value) (w : World) (K : Value → World → Prop) : Prop :=
  Calls prog 37 #[b_p0, (.func (.func 38) #[] #[])] w (Ret fun t_0 w =>
  pvv prog (Op.unary .not t_0) w fun t_1 w =>
  K t_1 w)
theorem B19_eq (b_p0 : Value) (w : World) (K : Value → World → Prop) : denFn prog Try.f19 T19 [b_p0] w K = B19 b_p0 w K := by kernel_rfl
theorem c19 {b_p0 : Value} {w : World} {K : Value → World → Prop} (h : B19 b_p0 w K) : Calls prog 19 #[b_p0] w (Ret K) :=
  denFn_calls Try.func19 T19_ok (Eq.mpr (B19_eq b_p0 w K) h)


end Go.Proofs.Ytcjklbhobmkalaa
