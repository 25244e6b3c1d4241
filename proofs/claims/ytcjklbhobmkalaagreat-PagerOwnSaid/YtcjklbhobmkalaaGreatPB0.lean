import Derived.Test.YtcjklbhobmkalaaGreatPI
set_option linter.all false
set_option maxRecDepth 100000
namespace Go.Proofs.YtcjklbhobmkalaaGreat
open Go Hold
-- 116 slices.partitionOrdered[int]
def T116 : Ann := (.seq .none (.seq (.draw [.op 0 .pure, .op 1 .pure, .op 2 .pure, .op 3 .pure, .op 4 .pure, .op 5 .pure, .op 6 .pure, .op 8 .pure, .op 9 .pure, .op 10 .pure, .op 7 .load, .op 11 .load, .op 12 .pure, .op 13 .eff, .op 14 .pure, .op 15 .eff]) (.seq .none (.seq (.block (.loop 70367670436864 [10] (.seq (.seq (.draw [.op 0 .pure, .op 1 .pure, .op 2 .pure, .op 3 .pure, .op 4 .pure, .op 5 .pure, .op 6 .pure, .op 8 .pure, .op 9 .pure, .op 10 .pure, .op 7 .load, .op 11 .load, .op 12 .eff, .op 13 .pure]) (.seq .none .none)) (.block .none)))) (.seq (.block (.loop 9223301668110600192 [11] (.seq (.seq (.draw [.op 0 .pure, .op 1 .pure, .op 2 .pure, .op 3 .pure, .op 4 .pure, .op 5 .pure, .op 6 .pure, .op 8 .pure, .op 9 .pure, .op 10 .pure, .op 7 .load, .op 11 .load, .op 12 .eff, .op 13 .pure, .op 14 .pure]) (.seq .none .none)) (.block .none)))) (.seq (.seq .none (.seq (.seq (.draw [.op 0 .pure, .op 1 .pure, .op 2 .pure, .op 3 .pure, .op 4 .pure, .op 5 .pure, .op 6 .pure, .op 8 .pure, .op 9 .pure, .op 10 .pure, .op 7 .load, .op 11 .load, .op 12 .pure, .op 13 .eff, .op 14 .pure, .op 15 .eff]) (.seq .none .none)) .none)) (.seq (.draw [.op 0 .pure, .op 1 .pure, .op 2 .pure, .op 3 .pure, .op 4 .pure, .op 5 .pure, .op 6 .pure, .op 8 .pure, .op 9 .pure, .op 10 .pure, .op 7 .load, .op 11 .load, .op 12 .pure, .op 13 .eff, .op 14 .pure, .op 15 .eff]) (.seq .none (.seq .none (.seq (.block (.loop 11417981541647678414640987641481260342710373376 [10, 11] (.block (.seq (.block (.loop 41537741042978506913543222282159104 [10] (.seq (.seq (.draw [.op 0 .pure, .op 1 .pure, .op 2 .pure, .op 3 .pure, .op 4 .pure, .op 5 .pure, .op 6 .pure, .op 8 .pure, .op 9 .pure, .op 10 .pure, .op 7 .load, .op 11 .load, .op 12 .eff, .op 13 .pure]) (.seq .none .none)) (.block .none)))) (.seq (.block (.loop 5444476332360147136792965474937657624576 [11] (.seq (.seq (.draw [.op 0 .pure, .op 1 .pure, .op 2 .pure, .op 3 .pure, .op 4 .pure, .op 5 .pure, .op 6 .pure, .op 8 .pure, .op 9 .pure, .op 10 .pure, .op 7 .load, .op 11 .load, .op 12 .eff, .op 13 .pure, .op 14 .pure]) (.seq .none .none)) (.block .none)))) (.seq (.seq .none (.seq .none .none)) (.seq (.draw [.op 0 .pure, .op 1 .pure, .op 2 .pure, .op 3 .pure, .op 4 .pure, .op 5 .pure, .op 6 .pure, .op 8 .pure, .op 9 .pure, .op 10 .pure, .op 7 .load, .op 11 .load, .op 12 .pure, .op 13 .eff, .op 14 .pure, .op 15 .eff]) (.seq .none .none)))))))) (.seq (.draw [.op 0 .pure, .op 1 .pure, .op 2 .pure, .op 3 .pure, .op 4 .pure, .op 5 .pure, .op 6 .pure, .op 8 .pure, .op 9 .pure, .op 10 .pure, .op 7 .load, .op 11 .load, .op 12 .pure, .op 13 .eff, .op 14 .pure, .op 15 .eff]) (.seq .none .none))))))))))))
theorem T116_ok : chkFn prog Tryz.f116 T116 = true := by kernel_rfl
def B116 (data_p0 a_p1 b_p2 pivot_p3 : Value) (w : World) (K : Value → World → Prop) : Prop :=
  dr w fun w =>
  pvv prog (Instr.indexAt 22 data_p0 pivot_p3) w fun t_0 w =>
  pvv prog (Instr.indexAt 22 data_p0 a_p1) w fun t_1 w =>
  bindS (vN (Instr.loadAt 3 t_0)) fun m_3 => ldv prog (Instr.loadAt 3 t_0) w fun t_2 w =>
  bindS (vN (Instr.loadAt 3 t_1)) fun m_5 => ldv prog (Instr.loadAt 3 t_1) w fun t_4 w =>
  pvv prog (Instr.indexAt 22 data_p0 a_p1) w fun t_6 w =>
  efu prog (Instr.storeAt 3 t_6 t_2) w fun u_7 w =>
  pvv prog (Instr.indexAt 22 data_p0 pivot_p3) w fun t_8 w =>
  efu prog (Instr.storeAt 3 t_8 t_4) w fun u_9 w =>
  pvv prog (binOp .add 3 a_p1 (.int .i64 1)) w fun t_10 w =>
  pvv prog (binOp .sub 3 b_p2 (.int .i64 1)) w fun t_11 w =>
  lp (fun σ w again_13 => pop σ fun i_12 σ => fin σ <|
    dr w fun w =>
    pvv prog (binOp .leq 3 i_12 t_11) w fun t_14 w =>
    gate (some (t_14, true)) (fun K => K data_p0 w) w fun t_15 w =>
    gate (some (t_14, true)) (fun K => K i_12 w) w fun t_16 w =>
    gate (some (t_14, true)) (fun K => pvv prog (Instr.indexAt 22 t_15 t_16) w K) w fun t_17 w =>
    gate (some (t_14, true)) (fun K => K data_p0 w) w fun t_18 w =>
    gate (some (t_14, true)) (fun K => K a_p1 w) w fun t_19 w =>
    gate (some (t_14, true)) (fun K => pvv prog (Instr.indexAt 22 t_18 t_19) w K) w fun t_20 w =>
    bindS (vN (Instr.loadAt 3 t_17)) fun m_22 => gate (some (t_14, true)) (fun K => ldv prog (Instr.loadAt 3 t_17) w K) w fun t_21 w =>
    bindS (vN (Instr.loadAt 3 t_20)) fun m_24 => gate (some (t_14, true)) (fun K => ldv prog (Instr.loadAt 3 t_20) w K) w fun t_23 w =>
    gate (some (t_14, true)) (fun K => Calls prog 114 #[t_21, t_23] w (Ret fun s_138 w => K s_138 w)) w fun t_25 w =>
    pv prog (oPick t_14 t_25 (.bool false)) w fun t_26 w =>
    cd t_26 (
      pvv prog (binOp .add 3 i_12 (.int .i64 1)) w fun t_27 w =>
      again_13 [t_27] w) <|
    lp (fun σ w again_29 => pop σ fun j_28 σ => fin σ <|
      dr w fun w =>
      pvv prog (binOp .leq 3 i_12 j_28) w fun t_30 w =>
      gate (some (t_30, true)) (fun K => K data_p0 w) w fun t_31 w =>
      gate (some (t_30, true)) (fun K => K j_28 w) w fun t_32 w =>
      gate (some (t_30, true)) (fun K => pvv prog (Instr.indexAt 22 t_31 t_32) w K) w fun t_33 w =>
      gate (some (t_30, true)) (fun K => K data_p0 w) w fun t_34 w =>
      gate (some (t_30, true)) (fun K => K a_p1 w) w fun t_35 w =>
      gate (some (t_30, true)) (fun K => pvv prog (Instr.indexAt 22 t_34 t_35) w K) w fun t_36 w =>
      bindS (vN (Instr.loadAt 3 t_33)) fun m_38 => gate (some (t_30, true)) (fun K => ldv prog (Instr.loadAt 3 t_33) w K) w fun t_37 w =>
      bindS (vN (Instr.loadAt 3 t_36)) fun m_40 => gate (some (t_30, true)) (fun K => ldv prog (Instr.loadAt 3 t_36) w K) w fun t_39 w =>
      gate (some (t_30, true)) (fun K => Calls prog 114 #[t_37, t_39] w (Ret fun s_137 w => K s_137 w)) w fun t_41 w =>
      gate (some (t_30, true)) (fun K => pvv prog (Op.unary .not t_41) w K) w fun t_42 w =>
      pv prog (oPick t_30 t_42 (.bool false)) w fun t_43 w =>
      cd t_43 (
        pvv prog (binOp .sub 3 j_28 (.int .i64 1)) w fun t_44 w =>
        again_29 [t_44] w) <|
      pvv prog (binOp .gtr 3 i_12 j_28) w fun t_45 w =>
      cd t_45 (
        dr w fun w =>
        pvv prog (Instr.indexAt 22 data_p0 a_p1) w fun t_46 w =>
        pvv prog (Instr.indexAt 22 data_p0 j_28) w fun t_47 w =>
        bindS (vN (Instr.loadAt 3 t_46)) fun m_49 => ldv prog (Instr.loadAt 3 t_46) w fun t_48 w =>
        bindS (vN (Instr.loadAt 3 t_47)) fun m_51 => ldv prog (Instr.loadAt 3 t_47) w fun t_50 w =>
        pvv prog (Instr.indexAt 22 data_p0 j_28) w fun t_52 w =>
        efu prog (Instr.storeAt 3 t_52 t_48) w fun u_53 w =>
        pvv prog (Instr.indexAt 22 data_p0 a_p1) w fun t_54 w =>
        efu prog (Instr.storeAt 3 t_54 t_50) w fun u_55 w =>
        K (.tuple #[j_28, (.bool true)]) w) <|
      dr w fun w =>
      pvv prog (Instr.indexAt 22 data_p0 j_28) w fun t_58 w =>
      pvv prog (Instr.indexAt 22 data_p0 i_12) w fun t_59 w =>
      bindS (vN (Instr.loadAt 3 t_58)) fun m_61 => ldv prog (Instr.loadAt 3 t_58) w fun t_60 w =>
      bindS (vN (Instr.loadAt 3 t_59)) fun m_63 => ldv prog (Instr.loadAt 3 t_59) w fun t_62 w =>
      pvv prog (Instr.indexAt 22 data_p0 i_12) w fun t_64 w =>
      efu prog (Instr.storeAt 3 t_64 t_60) w fun u_65 w =>
      pvv prog (Instr.indexAt 22 data_p0 j_28) w fun t_66 w =>
      efu prog (Instr.storeAt 3 t_66 t_62) w fun u_67 w =>
      pvv prog (binOp .add 3 i_12 (.int .i64 1)) w fun t_68 w =>
      pvv prog (binOp .sub 3 j_28 (.int .i64 1)) w fun t_69 w =>
      lp (fun σ w again_72 => pop σ fun i_70 σ => pop σ fun j_71 σ => fin σ <|
        lp (fun σ w again_74 => pop σ fun i_73 σ => fin σ <|
          dr w fun w =>
          pvv prog (binOp .leq 3 i_73 j_71) w fun t_75 w =>
          gate (some (t_75, true)) (fun K => K data_p0 w) w fun t_76 w =>
          gate (some (t_75, true)) (fun K => K i_73 w) w fun t_77 w =>
          gate (some (t_75, true)) (fun K => pvv prog (Instr.indexAt 22 t_76 t_77) w K) w fun t_78 w =>
          gate (some (t_75, true)) (fun K => K data_p0 w) w fun t_79 w =>
          gate (some (t_75, true)) (fun K => K a_p1 w) w fun t_80 w =>
          gate (some (t_75, true)) (fun K => pvv prog (Instr.indexAt 22 t_79 t_80) w K) w fun t_81 w =>
          bindS (vN (Instr.loadAt 3 t_78)) fun m_83 => gate (some (t_75, true)) (fun K => ldv prog (Instr.loadAt 3 t_78) w K) w fun t_82 w =>
          bindS (vN (Instr.loadAt 3 t_81)) fun m_85 => gate (some (t_75, true)) (fun K => ldv prog (Instr.loadAt 3 t_81) w K) w fun t_84 w =>
          gate (some (t_75, true)) (fun K => Calls prog 114 #[t_82, t_84] w (Ret fun s_134 w => K s_134 w)) w fun t_86 w =>
          pv prog (oPick t_75 t_86 (.bool false)) w fun t_87 w =>
          cd t_87 (
            pvv prog (binOp .add 3 i_73 (.int .i64 1)) w fun t_88 w =>
            again_74 [t_88] w) <|
          lp (fun σ w again_90 => pop σ fun j_89 σ => fin σ <|
            dr w fun w =>
            pvv prog (binOp .leq 3 i_73 j_89) w fun t_91 w =>
            gate (some (t_91, true)) (fun K => K data_p0 w) w fun t_92 w =>
            gate (some (t_91, true)) (fun K => K j_89 w) w fun t_93 w =>
            gate (some (t_91, true)) (fun K => pvv prog (Instr.indexAt 22 t_92 t_93) w K) w fun t_94 w =>
            gate (some (t_91, true)) (fun K => K data_p0 w) w fun t_95 w =>
            gate (some (t_91, true)) (fun K => K a_p1 w) w fun t_96 w =>
            gate (some (t_91, true)) (fun K => pvv prog (Instr.indexAt 22 t_95 t_96) w K) w fun t_97 w =>
            bindS (vN (Instr.loadAt 3 t_94)) fun m_99 => gate (some (t_91, true)) (fun K => ldv prog (Instr.loadAt 3 t_94) w K) w fun t_98 w =>
            bindS (vN (Instr.loadAt 3 t_97)) fun m_101 => gate (some (t_91, true)) (fun K => ldv prog (Instr.loadAt 3 t_97) w K) w fun t_100 w =>
            gate (some (t_91, true)) (fun K => Calls prog 114 #[t_98, t_100] w (Ret fun s_133 w => K s_133 w)) w fun t_102 w =>
            gate (some (t_91, true)) (fun K => pvv prog (Op.unary .not t_102) w K) w fun t_103 w =>
            pv prog (oPick t_91 t_103 (.bool false)) w fun t_104 w =>
            cd t_104 (
              pvv prog (binOp .sub 3 j_89 (.int .i64 1)) w fun t_105 w =>
              again_90 [t_105] w) <|
            pvv prog (binOp .gtr 3 i_73 j_89) w fun t_106 w =>
            cd t_106 (
              dr w fun w =>
              pvv prog (Instr.indexAt 22 data_p0 a_p1) w fun t_107 w =>
              pvv prog (Instr.indexAt 22 data_p0 j_89) w fun t_108 w =>
              bindS (vN (Instr.loadAt 3 t_107)) fun m_110 => ldv prog (Instr.loadAt 3 t_107) w fun t_109 w =>
              bindS (vN (Instr.loadAt 3 t_108)) fun m_112 => ldv prog (Instr.loadAt 3 t_108) w fun t_111 w =>
              pvv prog (Instr.indexAt 22 data_p0 j_89) w fun t_113 w =>
              efu prog (Instr.storeAt 3 t_113 t_109) w fun u_114 w =>
              pvv prog (Instr.indexAt 22 data_p0 a_p1) w fun t_115 w =>
              efu prog (Instr.storeAt 3 t_115 t_111) w fun u_116 w =>
              K (.tuple #[j_89, (.bool false)]) w) <|
            dr w fun w =>
            pvv prog (Instr.indexAt 22 data_p0 j_89) w fun t_119 w =>
            pvv prog (Instr.indexAt 22 data_p0 i_73) w fun t_120 w =>
            bindS (vN (Instr.loadAt 3 t_119)) fun m_122 => ldv prog (Instr.loadAt 3 t_119) w fun t_121 w =>
            bindS (vN (Instr.loadAt 3 t_120)) fun m_124 => ldv prog (Instr.loadAt 3 t_120) w fun t_123 w =>
            pvv prog (Instr.indexAt 22 data_p0 i_73) w fun t_125 w =>
            efu prog (Instr.storeAt 3 t_125 t_121) w fun u_126 w =>
            pvv prog (Instr.indexAt 22 data_p0 j_89) w fun t_127 w =>
            efu prog (Instr.storeAt 3 t_127 t_123) w fun u_128 w =>
            pvv prog (binOp .add 3 i_73 (.int .i64 1)) w fun t_129 w =>
            pvv prog (binOp .sub 3 j_89 (.int .i64 1)) w fun t_130 w =>
            again_72 [t_129, t_130] w) [j_71] w) [i_70] w) [t_68, t_69] w) [t_11] w) [t_10] w
theorem B116_eq (data_p0 a_p1 b_p2 pivot_p3 : Value) (w : World) (K : Value → World → Prop) : denFn prog Tryz.f116 T116 [data_p0, a_p1, b_p2, pivot_p3] w K = B116 data_p0 a_p1 b_p2 pivot_p3 w K := by kernel_rfl
theorem c116 {data_p0 a_p1 b_p2 pivot_p3 : Value} {w : World} {K : Value → World → Prop} (h : B116 data_p0 a_p1 b_p2 pivot_p3 w K) : Calls prog 116 #[data_p0, a_p1, b_p2, pivot_p3] w (Ret K) :=
  denFn_calls Tryz.func116 T116_ok (Eq.mpr (B116_eq data_p0 a_p1 b_p2 pivot_p3 w K) h)

-- 4 holdfast/holdfastlaw04.PagerAborts
def T4 : Ann := (.seq .none (.seq .none (.seq (.seq .none (.seq (.seq .none .none) .none)) (.seq .none (.seq (.seq .none (.block (.loop 9223372036787667136 [6, 7] (.seq (.seq .none (.seq .none .none)) (.meet 9223371968135299136 [6] (.block (.seq .none (.block (.seq .none (.seq (.draw [.op 0 .pure, .op 1 .pure, .op 2 .pure, .op 3 .pure, .op 6 .pure, .op 7 .pure, .op 8 .pure, .op 4 .load, .op 9 .load, .op 5 .eff, .op 10 .eff, .op 11 .eff]) (.seq .none (.seq (.seq .none (.seq .none .none)) .none))))))) .none))))) (.seq .none (.seq (.seq .none (.seq (.seq .none .none) .none)) (.seq (.seq .none (.block (.loop 633825224556250974834028187140 [9] (.seq (.seq .none (.seq .none .none)) (.seq (.block (.seq .none (.seq .none (.seq (.seq .none .none) .none)))) .none))))) (.seq .none .none)))))))))
theorem T4_ok : chkFn prog Tryz.f4 T4 = true := by kernel_rfl
def B4 (l_p0 : Value) (w : World) (K : Value → World → Prop) : Prop :=
  Calls prog 9 #[(.int .i64 10), (.int .i64 4)] w (Ret fun t_0 w =>
  pvv prog (Instr.extract t_0 0) w fun t_1 w =>
  pvv prog (Instr.extract t_0 1) w fun t_2 w =>
  pvv prog (Instr.extract t_0 2) w fun t_3 w =>
  Calls prog 10 #[] w (Ret fun t_4 w =>
  pvv prog (Op.unary .not t_4) w fun t_5 w =>
  gate (some (t_5, false)) (fun K => K t_3 w) w fun t_6 w =>
  gate (some (t_5, false)) (fun K => pvv prog (Op.unary .not t_6) w K) w fun t_7 w =>
  pv prog (oPick t_5 (.bool true) t_7) w fun t_8 w =>
  cd t_8 (
    K (.bool false) w) <|
  Calls prog 17 #[t_1] w (Ret fun t_9 w =>
  Calls prog 16 #[t_9] w (Ret fun t_10 w =>
  lp (fun σ w again_13 => pop σ fun was_11 σ => pop σ fun i_12 σ => fin σ <|
    pv prog (oBi .len #[39] 3 #[false] #[l_p0]) w fun t_14 w =>
    pvv prog (binOp .lss 3 i_12 t_14) w fun t_15 w =>
    gate (some (t_15, true)) (fun K => K i_12 w) w fun t_16 w =>
    gate (some (t_15, true)) (fun K => pvv prog (binOp .lss 3 t_16 (.int .i64 60)) w K) w fun t_17 w =>
    pv prog (oPick t_15 t_17 (.bool false)) w fun t_18 w =>
    cd t_18 (
      jn (fun σ w => pop σ fun was_19 σ => fin σ <|
        pvv prog (binOp .add 3 i_12 (.int .i64 1)) w fun t_20 w =>
        again_13 [was_19, t_20] w) fun k_21 =>
      pvv prog (Instr.indexAt 39 l_p0 i_12) w fun t_22 w =>
      pvv prog (Instr.fieldAt 24 t_22 0) w fun t_23 w =>
      ldv prog (Instr.loadAt 3 t_23) w fun t_24 w =>
      pvv prog (oEq .eql 3 (.tmp 40) (.const (.int .i64 1)) t_24 (.int .i64 1)) w fun t_25 w =>
      cd t_25 (
        dr w fun w =>
        pvv prog (Instr.indexAt 39 l_p0 i_12) w fun t_26 w =>
        pvv prog (Instr.indexAt 39 l_p0 i_12) w fun t_27 w =>
        bindS (vN (Instr.loadAt 24 t_26)) fun m_29 => ldv prog (Instr.loadAt 24 t_26) w fun t_28 w =>
        bindS (vN (Instr.loadAt 24 t_27)) fun m_31 => ldv prog (Instr.loadAt 24 t_27) w fun t_30 w =>
        Calls prog 13 #[t_28] w (Ret fun t_32 w => stay prog none m_31 t_30 w <| 
        Calls prog 11 #[t_30] w (Ret fun t_33 w => stay prog none m_29 t_28 w <| 
        Calls prog 12 #[t_1, t_32, t_33] w (Ret fun t_34 w => stay prog none m_31 t_30 w <| stay prog none m_29 t_28 w <| 
        k_21 [was_11] w)))) <|
      pvv prog (oEq .eql 3 (.tmp 40) (.const (.int .i64 2)) t_24 (.int .i64 2)) w fun t_38 w =>
      cd t_38 (
        Calls prog 18 #[t_1] w (Ret fun t_39 w =>
        pvv prog (oEq .eql 32 (.tmp 58) (.const (.int .i64 0)) t_39 (.int .i64 0)) w fun t_40 w =>
        cd t_40 (
          Calls prog 17 #[t_1] w (Ret fun t_41 w =>
          Calls prog 16 #[t_41] w (Ret fun t_42 w =>
          k_21 [t_42] w))) <|
        k_21 [was_11] w)) <|
      k_21 [was_11] w) <|
    Calls prog 19 #[t_1] w (Ret fun t_43 w =>
    pv prog (oBi .len #[22] 3 #[false] #[t_43]) w fun t_44 w =>
    Calls prog 20 #[t_1] w (Ret fun t_45 w =>
    pvv prog (oEq .neq 3 (.tmp 67) (.tmp 68) t_45 t_44) w fun t_46 w =>
    gate (some (t_46, false)) (fun K => K t_1 w) w fun t_47 w =>
    gate (some (t_46, false)) (fun K => Calls prog 19 #[t_47] w (Ret K)) w fun t_48 w =>
    gate (some (t_46, false)) (fun K => pv prog (oBi .len #[22] 3 #[false] #[t_48]) w K) w fun t_49 w =>
    gate (some (t_46, false)) (fun K => pvv prog (oEq .neq 3 (.tmp 73) (.const (.int .i64 0)) t_49 (.int .i64 0)) w K) w fun t_50 w =>
    pv prog (oPick t_46 (.bool true) t_50) w fun t_51 w =>
    cd t_51 (
      K (.bool false) w) <|
    lp (fun σ w again_53 => pop σ fun i_52 σ => fin σ <|
      pv prog (oBi .len #[40] 3 #[false] #[was_11]) w fun t_54 w =>
      pvv prog (binOp .lss 3 i_52 t_54) w fun t_55 w =>
      cd t_55 (
        Calls prog 14 #[t_1, i_52] w (Ret fun t_56 w =>
        pvv prog (Instr.extract t_56 0) w fun t_57 w =>
        pvv prog (Instr.extract t_56 1) w fun t_58 w =>
        pvv prog (oEq .neq 32 (.tmp 88) (.const (.int .i64 0)) t_58 (.int .i64 0)) w fun t_59 w =>
        gate (some (t_59, false)) (fun K => K t_57 w) w fun t_60 w =>
        gate (some (t_59, false)) (fun K => K was_11 w) w fun t_61 w =>
        gate (some (t_59, false)) (fun K => K i_52 w) w fun t_62 w =>
        gate (some (t_59, false)) (fun K => pvv prog (Instr.indexAt 40 t_61 t_62) w K) w fun t_63 w =>
        gate (some (t_59, false)) (fun K => ldv prog (Instr.loadAt 30 t_63) w K) w fun t_64 w =>
        gate (some (t_59, false)) (fun K => Calls prog 15 #[t_60, t_64] w (Ret K)) w fun t_65 w =>
        gate (some (t_59, false)) (fun K => pvv prog (Op.unary .not t_65) w K) w fun t_66 w =>
        pv prog (oPick t_59 (.bool true) t_66) w fun t_67 w =>
        cd t_67 (
          K (.bool false) w) <|
        pvv prog (binOp .add 3 i_52 (.int .i64 1)) w fun t_68 w =>
        again_53 [t_68] w)) <|
      Calls prog 20 #[t_1] w (Ret fun t_69 w =>
      pvv prog (oEq .eql 3 (.tmp 100) (.const (.int .i64 0)) t_69 (.int .i64 0)) w fun t_70 w =>
      K t_70 w)) [(.int .i64 0)] w))) [t_10, (.int .i64 0)] w))))
theorem B4_eq (l_p0 : Value) (w : World) (K : Value → World → Prop) : denFn prog Tryz.f4 T4 [l_p0] w K = B4 l_p0 w K := by kernel_rfl
theorem c4 {l_p0 : Value} {w : World} {K : Value → World → Prop} (h : B4 l_p0 w K) : Calls prog 4 #[l_p0] w (Ret K) :=
  denFn_calls Tryz.func4 T4_ok (Eq.mpr (B4_eq l_p0 w K) h)

-- 40 (*holdfast/pager.Pager).use
def T40 : Ann := (.seq .none (.seq .none (.meet 34359607328 [5] (.seq .none (.seq .none (.seq .none .none))) (.seq .none (.seq (.drawT [.op 5 .pure, .op 0 .load, .op 1 .load, .op 2 .pure, .op 3 .pure, .op 4 .load, .op 6 .eff, .op 7 .eff, .op 8 .pure, .op 9 .pure, .op 10 .eff]) (.seq .none (.meet 2417851621214859839930496 [] (.seq (.drawT [.op 0 .load, .op 1 .pure, .op 2 .pure, .op 3 .load, .op 4 .pure, .op 5 .load, .op 6 .pure, .op 7 .pure, .op 8 .load, .op 9 .pure]) (.seq (.seq .none (.seq .none (.seq (.drawT [.op 5 .pure, .op 0 .load, .op 1 .load, .op 2 .pure, .op 3 .pure, .op 4 .load, .op 6 .pure, .op 7 .load, .op 8 .eff]) .none))) .none)) (.seq .none .none))))))))
theorem T40_ok : chkFn prog Tryz.f40 T40 = true := by kernel_rfl
def B40 (p_p0 n_p1 : Value) (w : World) (K : Value → World → Prop) : Prop :=
  efv prog (Instr.box 25 p_p0) w fun p_0 w =>
  ldv prog (Instr.loadAt 25 p_0) w fun t_1 w =>
  pv prog (oNil t_1) w fun t_2 w =>
  pvv prog (Instr.fieldAt 80 t_2 3) w fun t_3 w =>
  ldv prog (Instr.loadAt 72 t_3) w fun t_4 w =>
  ldv prog (Instr.lookup 72 t_4 n_p1 true) w fun t_5 w =>
  pvv prog (Instr.extract t_5 0) w fun t_6 w =>
  pvv prog (Instr.extract t_5 1) w fun t_7 w =>
  jn (fun σ w => pop σ fun b_8 σ => fin σ <|
    ldv prog (Instr.loadAt 25 p_0) w fun t_9 w =>
    Calls prog 39 #[t_9, n_p1] w (Ret fun t_10 w =>
    dr w fun w =>
    bindS (vN (Instr.loadAt 25 p_0)) fun m_12 => ldv prog (Instr.loadAt 25 p_0) w fun t_11 w =>
    bindS (vN (Instr.loadAt 25 p_0)) fun m_14 => ldv prog (Instr.loadAt 25 p_0) w fun t_13 w =>
    pv prog (oNil t_13) w fun t_15 w =>
    pvv prog (Instr.fieldAt 80 t_15 4) w fun t_16 w =>
    bindS (vN (Instr.loadAt 22 t_16)) fun m_18 => ldv prog (Instr.loadAt 22 t_16) w fun t_17 w =>
    efv prog (Instr.buildSlice 22 1 #[(0, n_p1)]) w fun t_19 w => stay prog none m_18 t_17 w <| stay prog none m_14 t_13 w <| stay prog none m_12 t_11 w <| 
    ef prog (oBi .append #[22, 22] 22 #[false, false] #[t_17, t_19]) w fun t_20 w => stay prog none m_12 t_11 w <| 
    pv prog (oNil t_11) w fun t_21 w =>
    pvv prog (Instr.fieldAt 80 t_21 4) w fun t_22 w =>
    efu prog (Instr.storeAt 22 t_22 t_20) w fun u_23 w =>
    ldv prog (Instr.loadAt 25 p_0) w fun t_24 w =>
    pv prog (oNil t_24) w fun t_25 w =>
    pvv prog (Instr.fieldAt 80 t_25 3) w fun t_26 w =>
    ldv prog (Instr.loadAt 72 t_26) w fun t_27 w =>
    efu prog (Instr.mapUpdate 72 t_27 n_p1 b_8) w fun u_28 w =>
    jn (fun σ w => fin σ <|
      Calls prog 38 #[b_8] w (Ret fun t_29 w =>
      K t_29 w)) fun k_30 =>
    dr w fun w =>
    bindS (vN (Instr.loadAt 25 p_0)) fun m_32 => ldv prog (Instr.loadAt 25 p_0) w fun t_31 w =>
    pv prog (oNil t_31) w fun t_33 w =>
    pvv prog (Instr.fieldAt 80 t_33 4) w fun t_34 w =>
    bindS (vN (Instr.loadAt 22 t_34)) fun m_36 => ldv prog (Instr.loadAt 22 t_34) w fun t_35 w =>
    pv prog (oBi .len #[22] 3 #[false] #[t_35]) w fun t_37 w =>
    bindS (vN (Instr.loadAt 25 p_0)) fun m_39 => ldv prog (Instr.loadAt 25 p_0) w fun t_38 w =>
    pv prog (oNil t_38) w fun t_40 w =>
    pvv prog (Instr.fieldAt 80 t_40 1) w fun t_41 w =>
    bindS (vN (Instr.loadAt 3 t_41)) fun m_43 => ldv prog (Instr.loadAt 3 t_41) w fun t_42 w =>
    pvv prog (binOp .gtr 3 t_37 t_42) w fun t_44 w =>
    cd t_44 (
      ldv prog (Instr.loadAt 25 p_0) w fun t_45 w =>
      pv prog (oNil t_45) w fun t_46 w =>
      pvv prog (Instr.fieldAt 80 t_46 4) w fun t_47 w =>
      ldv prog (Instr.loadAt 22 t_47) w fun t_48 w =>
      pvv prog (Instr.makeFunc (.func 71) #[] #[p_0]) w fun t_49 w =>
      Calls prog 70 #[t_48, t_49] w (Ret fun t_50 w =>
      pvv prog (binOp .geq 3 t_50 (.int .i64 0)) w fun t_51 w =>
      cd t_51 (
        dr w fun w =>
        bindS (vN (Instr.loadAt 25 p_0)) fun m_53 => ldv prog (Instr.loadAt 25 p_0) w fun t_52 w =>
        bindS (vN (Instr.loadAt 25 p_0)) fun m_55 => ldv prog (Instr.loadAt 25 p_0) w fun t_54 w =>
        pv prog (oNil t_54) w fun t_56 w =>
        pvv prog (Instr.fieldAt 80 t_56 4) w fun t_57 w =>
        bindS (vN (Instr.loadAt 22 t_57)) fun m_59 => ldv prog (Instr.loadAt 22 t_57) w fun t_58 w =>
        pvv prog (Instr.indexAt 22 t_58 t_50) w fun t_60 w =>
        bindS (vN (Instr.loadAt 3 t_60)) fun m_62 => ldv prog (Instr.loadAt 3 t_60) w fun t_61 w =>
        Calls prog 39 #[t_52, t_61] w (Ret fun t_63 w => stay prog none m_55 t_54 w <| 
        k_30 [] w)) <|
      k_30 [] w)) <|
    k_30 [] w)) fun k_68 =>
  cd t_7 (
    ldv prog (Instr.loadAt 25 p_0) w fun t_69 w =>
    pv prog (oNil t_69) w fun t_70 w =>
    pvv prog (Instr.fieldAt 80 t_70 6) w fun t_71 w =>
    Calls prog 69 #[t_71, (.int .i64 1)] w (Ret fun t_72 w =>
    k_68 [t_6] w)) <|
  ldv prog (Instr.loadAt 25 p_0) w fun t_73 w =>
  pv prog (oNil t_73) w fun t_74 w =>
  pvv prog (Instr.fieldAt 80 t_74 7) w fun t_75 w =>
  Calls prog 69 #[t_75, (.int .i64 1)] w (Ret fun t_76 w =>
  ldv prog (Instr.loadAt 25 p_0) w fun t_77 w =>
  pv prog (oNil t_77) w fun t_78 w =>
  pvv prog (Instr.fieldAt 80 t_78 0) w fun t_79 w =>
  ldv prog (Instr.loadAt 42 t_79) w fun t_80 w =>
  Calls prog 42 #[t_80, n_p1] w (Ret fun t_81 w =>
  pvv prog (Instr.extract t_81 0) w fun t_82 w =>
  pvv prog (Instr.extract t_81 1) w fun t_83 w =>
  k_68 [t_82] w))
theorem B40_eq (p_p0 n_p1 : Value) (w : World) (K : Value → World → Prop) : denFn prog Tryz.f40 T40 [p_p0, n_p1] w K = B40 p_p0 n_p1 w K := by kernel_rfl
theorem c40 {p_p0 n_p1 : Value} {w : World} {K : Value → World → Prop} (h : B40 p_p0 n_p1 w K) : Calls prog 40 #[p_p0, n_p1] w (Ret K) :=
  denFn_calls Tryz.func40 T40_ok (Eq.mpr (B40_eq p_p0 n_p1 w K) h)

-- 10 holdfast/holdfastlaw04.live
def T10 : Ann := (.seq .none (.seq .none (.seq .none (.seq .none (.seq .none (.seq .none (.seq .none (.seq .none (.seq .none (.seq .none .none))))))))))
theorem T10_ok : chkFn prog Tryz.f10 T10 = true := by kernel_rfl
def B10 (w : World) (K : Value → World → Prop) : Prop :=
  Calls prog 9 #[(.int .i64 5), (.int .i64 1)] w (Ret fun t_0 w =>
  pvv prog (Instr.extract t_0 0) w fun t_1 w =>
  pvv prog (Instr.extract t_0 1) w fun t_2 w =>
  pvv prog (Instr.extract t_0 2) w fun t_3 w =>
  Calls prog 14 #[t_1, (.int .i64 0)] w (Ret fun t_4 w =>
  Calls prog 14 #[t_1, (.int .i64 0)] w (Ret fun t_5 w =>
  Calls prog 14 #[t_1, (.int .i64 1)] w (Ret fun t_6 w =>
  Calls prog 21 #[t_1] w (Ret fun t_7 w =>
  pvv prog (Instr.build 24 #[(2, (.int .u8 3))]) w fun t_8 w =>
  Calls prog 11 #[t_8] w (Ret fun t_9 w =>
  Calls prog 12 #[t_1, (.int .i64 2), t_9] w (Ret fun t_10 w =>
  Calls prog 18 #[t_1] w (Ret fun t_11 w =>
  Calls prog 14 #[t_1, (.int .i64 2)] w (Ret fun t_12 w =>
  pvv prog (Instr.extract t_12 0) w fun t_13 w =>
  pvv prog (Instr.extract t_12 1) w fun t_14 w =>
  gate (some (t_3, true)) (fun K => K t_1 w) w fun t_15 w =>
  gate (some (t_3, true)) (fun K => Calls prog 32 #[t_15] w (Ret K)) w fun t_16 w =>
  gate (some (t_3, true)) (fun K => pvv prog (oEq .eql 3 (.tmp 36) (.const (.int .i64 3)) t_16 (.int .i64 3)) w K) w fun t_17 w =>
  pv prog (oPick t_3 t_17 (.bool false)) w fun t_18 w =>
  gate (some (t_18, true)) (fun K => K t_1 w) w fun t_19 w =>
  gate (some (t_18, true)) (fun K => Calls prog 31 #[t_19] w (Ret K)) w fun t_20 w =>
  gate (some (t_18, true)) (fun K => pvv prog (oEq .eql 3 (.tmp 41) (.const (.int .i64 1)) t_20 (.int .i64 1)) w K) w fun t_21 w =>
  pv prog (oPick t_18 t_21 (.bool false)) w fun t_22 w =>
  gate (some (t_22, true)) (fun K => K t_7 w) w fun t_23 w =>
  gate (some (t_22, true)) (fun K => pv prog (oBi .len #[22] 3 #[false] #[t_23]) w K) w fun t_24 w =>
  gate (some (t_22, true)) (fun K => pvv prog (oEq .eql 3 (.tmp 46) (.const (.int .i64 1)) t_24 (.int .i64 1)) w K) w fun t_25 w =>
  pv prog (oPick t_22 t_25 (.bool false)) w fun t_26 w =>
  gate (some (t_26, true)) (fun K => K t_7 w) w fun t_27 w =>
  gate (some (t_26, true)) (fun K => pvv prog (Instr.indexAt 22 t_27 (.int .i64 0)) w K) w fun t_28 w =>
  gate (some (t_26, true)) (fun K => ldv prog (Instr.loadAt 3 t_28) w K) w fun t_29 w =>
  gate (some (t_26, true)) (fun K => pvv prog (oEq .eql 3 (.tmp 52) (.const (.int .i64 1)) t_29 (.int .i64 1)) w K) w fun t_30 w =>
  pv prog (oPick t_26 t_30 (.bool false)) w fun t_31 w =>
  gate (some (t_31, true)) (fun K => K t_10 w) w fun t_32 w =>
  gate (some (t_31, true)) (fun K => pvv prog (oEq .eql 32 (.tmp 56) (.const (.int .i64 0)) t_32 (.int .i64 0)) w K) w fun t_33 w =>
  pv prog (oPick t_31 t_33 (.bool false)) w fun t_34 w =>
  gate (some (t_34, true)) (fun K => K t_11 w) w fun t_35 w =>
  gate (some (t_34, true)) (fun K => pvv prog (oEq .eql 32 (.tmp 60) (.const (.int .i64 0)) t_35 (.int .i64 0)) w K) w fun t_36 w =>
  pv prog (oPick t_34 t_36 (.bool false)) w fun t_37 w =>
  gate (some (t_37, true)) (fun K => K t_14 w) w fun t_38 w =>
  gate (some (t_37, true)) (fun K => pvv prog (oEq .eql 32 (.tmp 64) (.const (.int .i64 0)) t_38 (.int .i64 0)) w K) w fun t_39 w =>
  pv prog (oPick t_37 t_39 (.bool false)) w fun t_40 w =>
  gate (some (t_40, true)) (fun K => K t_13 w) w fun t_41 w =>
  gate (some (t_40, true)) (fun K => pv prog (oBi .len #[30] 3 #[false] #[t_41]) w K) w fun t_42 w =>
  gate (some (t_40, true)) (fun K => pvv prog (oEq .eql 3 (.tmp 69) (.const (.int .i64 256)) t_42 (.int .i64 256)) w K) w fun t_43 w =>
  pv prog (oPick t_40 t_43 (.bool false)) w fun t_44 w =>
  gate (some (t_44, true)) (fun K => K t_13 w) w fun t_45 w =>
  gate (some (t_44, true)) (fun K => pvv prog (Instr.indexAt 30 t_45 (.int .i64 9)) w K) w fun t_46 w =>
  gate (some (t_44, true)) (fun K => ldv prog (Instr.loadAt 5 t_46) w K) w fun t_47 w =>
  gate (some (t_44, true)) (fun K => pvv prog (oEq .eql 5 (.tmp 75) (.const (.int .u8 3)) t_47 (.int .u8 3)) w K) w fun t_48 w =>
  pv prog (oPick t_44 t_48 (.bool false)) w fun t_49 w =>
  K t_49 w)))))))))
theorem B10_eq (w : World) (K : Value → World → Prop) : denFn prog Tryz.f10 T10 [] w K = B10  w K := by kernel_rfl
theorem c10 {w : World} {K : Value → World → Prop} (h : B10  w K) : Calls prog 10 #[] w (Ret K) :=
  denFn_calls Tryz.func10 T10_ok (Eq.mpr (B10_eq  w K) h)

-- 44 (*holdfast/wal.Log).Checkpoint
def T44 : Ann := (.seq .none (.seq (.block (.seq .none (.seq (.seq .none .none) (.seq .none (.seq (.seq .none .none) .none))))) (.seq (.seq .none (.block (.loop 9007199254216816 [19] (.seq .none (.seq (.seq .none .none) (.seq (.block (.seq .none (.seq (.draw [.op 0 .pure, .op 1 .pure, .op 2 .pure, .op 3 .pure, .op 5 .pure, .op 6 .pure, .op 7 .pure, .op 9 .pure, .op 4 .load, .op 8 .load, .op 10 .load, .op 11 .eff, .op 12 .pure, .op 13 .pure, .op 14 .pure, .op 15 .pure, .op 16 .pure]) (.draw [.op 0 .pure, .op 1 .pure, .op 2 .pure, .op 3 .pure, .op 5 .pure, .op 6 .pure, .op 7 .pure, .op 10 .pure, .op 12 .pure, .op 4 .load, .op 8 .load, .op 9 .pure, .op 11 .pure, .op 13 .eff])))) .none)))))) (.seq .none (.seq .none (.seq .none (.seq .none .none)))))))
theorem T44_ok : chkFn prog Tryz.f44 T44 = true := by kernel_rfl
def B44 (l_p0 : Value) (w : World) (K : Value → World → Prop) : Prop :=
  pvv prog (oEq .eql 42 (.tmp 8) (.const (.pointer none)) l_p0 (.pointer none)) w fun t_0 w =>
  cd t_0 (
    K (.int .i64 1) w) <|
  pv prog (oNil l_p0) w fun t_1 w =>
  pvv prog (Instr.fieldAt 97 t_1 3) w fun t_2 w =>
  ldv prog (Instr.loadAt 3 t_2) w fun t_3 w =>
  pvv prog (oEq .eql 3 (.tmp 14) (.const (.int .i64 0)) t_3 (.int .i64 0)) w fun t_4 w =>
  cd t_4 (
    K (.int .i64 0) w) <|
  Calls prog 79 #[l_p0] w (Ret fun t_5 w =>
  pv prog (oBi .len #[22] 3 #[false] #[t_5]) w fun t_6 w =>
  lp (fun σ w again_8 => pop σ fun t_7 σ => fin σ <|
    pvv prog (binOp .lss 3 t_7 t_6) w fun t_9 w =>
    cd t_9 (
      pvv prog (Instr.indexAt 22 t_5 t_7) w fun t_10 w =>
      ldv prog (Instr.loadAt 3 t_10) w fun t_11 w =>
      dr w fun w =>
      pv prog (oNil l_p0) w fun t_12 w =>
      pvv prog (Instr.fieldAt 97 t_12 0) w fun t_13 w =>
      pvv prog (Instr.fieldAt 94 t_13 0) w fun t_14 w =>
      pv prog (oNil l_p0) w fun t_15 w =>
      pvv prog (Instr.fieldAt 97 t_15 4) w fun t_16 w =>
      bindS (vN (Instr.loadAt 48 t_14)) fun m_18 => ldv prog (Instr.loadAt 48 t_14) w fun t_17 w =>
      bindS (vN (Instr.loadAt 95 t_16)) fun m_20 => ldv prog (Instr.loadAt 95 t_16) w fun t_19 w =>
      bindS (vN (Instr.lookup 95 t_19 t_11 false)) fun m_22 => ldv prog (Instr.lookup 95 t_19 t_11 false) w fun t_21 w =>
      Calls prog 55 #[t_17, t_21] w (Ret fun t_23 w => stay prog none m_20 t_19 w <| 
      pvv prog (Instr.extract t_23 0) w fun t_24 w =>
      pvv prog (Instr.extract t_23 1) w fun t_25 w =>
      dr w fun w =>
      pv prog (oNil l_p0) w fun t_26 w =>
      pvv prog (Instr.fieldAt 97 t_26 0) w fun t_27 w =>
      pvv prog (Instr.fieldAt 94 t_27 0) w fun t_28 w =>
      pv prog (oNil l_p0) w fun t_29 w =>
      pvv prog (Instr.fieldAt 97 t_29 1) w fun t_30 w =>
      bindS (vN (Instr.loadAt 48 t_28)) fun m_32 => ldv prog (Instr.loadAt 48 t_28) w fun t_31 w =>
      bindS (vN (Instr.loadAt 3 t_30)) fun m_34 => ldv prog (Instr.loadAt 3 t_30) w fun t_33 w =>
      pvv prog (binOp .add 3 t_33 (.int .i64 1)) w fun t_35 w =>
      pvv prog (binOp .add 3 t_35 t_11) w fun t_36 w =>
      Calls prog 77 #[t_31, t_36, t_24] w (Ret fun t_37 w => stay prog none m_34 t_33 w <| 
      pvv prog (binOp .add 3 t_7 (.int .i64 1)) w fun t_38 w =>
      again_8 [t_38] w))) <|
    pv prog (oNil l_p0) w fun t_41 w =>
    pvv prog (Instr.fieldAt 97 t_41 3) w fun t_42 w =>
    efu prog (Instr.storeAt 3 t_42 (.int .i64 0)) w fun u_43 w =>
    pv prog (oNil l_p0) w fun t_44 w =>
    pvv prog (Instr.fieldAt 97 t_44 4) w fun t_45 w =>
    ldv prog (Instr.loadAt 95 t_45) w fun t_46 w =>
    ef prog (oBi .clear #[95] 0 #[false] #[t_46]) w fun u_47 w =>
    Calls prog 78 #[l_p0] w (Ret fun t_48 w =>
    K (.int .i64 0) w)) [(.int .i64 0)] w)
theorem B44_eq (l_p0 : Value) (w : World) (K : Value → World → Prop) : denFn prog Tryz.f44 T44 [l_p0] w K = B44 l_p0 w K := by kernel_rfl
theorem c44 {l_p0 : Value} {w : World} {K : Value → World → Prop} (h : B44 l_p0 w K) : Calls prog 44 #[l_p0] w (Ret K) :=
  denFn_calls Tryz.func44 T44_ok (Eq.mpr (B44_eq l_p0 w K) h)

-- 110 slices.breakPatternsOrdered[int]
def T110 : Ann := (.seq .none (.seq .none (.seq (.seq .none (.seq .none (.seq .none (.block (.loop 36893488147351995904 [9] (.seq (.seq .none (.seq .none .none)) (.seq (.block (.seq .none (.meet 138538465100800 [10] (.seq .none (.seq .none .none)) (.draw [.op 0 .pure, .op 1 .pure, .op 2 .pure, .op 3 .pure, .op 4 .pure, .op 5 .pure, .op 6 .pure, .op 7 .pure, .op 8 .pure, .op 9 .pure, .op 10 .pure, .op 12 .pure, .op 13 .pure, .op 14 .pure, .op 11 .load, .op 15 .load, .op 16 .pure, .op 17 .eff, .op 18 .pure, .op 19 .eff])))) .none))))))) .none)))
theorem T110_ok : chkFn prog Tryz.f110 T110 = true := by kernel_rfl
def B110 (data_p0 a_p1 b_p2 : Value) (w : World) (K : Value → World → Prop) : Prop :=
  pvv prog (binOp .sub 3 b_p2 a_p1) w fun t_0 w =>
  pvv prog (binOp .geq 3 t_0 (.int .i64 8)) w fun t_1 w =>
  cd t_1 (
    pvv prog (convert 3 168 t_0) w fun t_2 w =>
    efv prog (Instr.alloc 168 true (.tuple #[])) w fun random_3 w =>
    efu prog (Instr.storeAt 168 random_3 t_2) w fun u_4 w =>
    Calls prog 120 #[t_0] w (Ret fun t_5 w =>
    pvv prog (binOp .quo 3 t_0 (.int .i64 4)) w fun t_6 w =>
    pvv prog (binOp .mul 3 t_6 (.int .i64 2)) w fun t_7 w =>
    pvv prog (binOp .add 3 a_p1 t_7) w fun t_8 w =>
    pvv prog (binOp .sub 3 t_8 (.int .i64 1)) w fun t_9 w =>
    lp (fun σ w again_11 => pop σ fun idx_10 σ => fin σ <|
      pvv prog (binOp .quo 3 t_0 (.int .i64 4)) w fun t_12 w =>
      pvv prog (binOp .mul 3 t_12 (.int .i64 2)) w fun t_13 w =>
      pvv prog (binOp .add 3 a_p1 t_13) w fun t_14 w =>
      pvv prog (binOp .add 3 t_14 (.int .i64 1)) w fun t_15 w =>
      pvv prog (binOp .leq 3 idx_10 t_15) w fun t_16 w =>
      cd t_16 (
        Calls prog 121 #[random_3] w (Ret fun t_17 w =>
        pvv prog (binOp .sub 120 t_5 (.int .u64 1)) w fun t_18 w =>
        pvv prog (binOp .and 120 t_17 t_18) w fun t_19 w =>
        pvv prog (convert 120 3 t_19) w fun t_20 w =>
        jn (fun σ w => pop σ fun other_21 σ => fin σ <|
          dr w fun w =>
          pvv prog (binOp .add 3 a_p1 other_21) w fun t_22 w =>
          pvv prog (binOp .add 3 a_p1 other_21) w fun t_23 w =>
          pvv prog (Instr.indexAt 22 data_p0 t_23) w fun t_24 w =>
          pvv prog (Instr.indexAt 22 data_p0 idx_10) w fun t_25 w =>
          bindS (vN (Instr.loadAt 3 t_24)) fun m_27 => ldv prog (Instr.loadAt 3 t_24) w fun t_26 w =>
          bindS (vN (Instr.loadAt 3 t_25)) fun m_29 => ldv prog (Instr.loadAt 3 t_25) w fun t_28 w =>
          pvv prog (Instr.indexAt 22 data_p0 idx_10) w fun t_30 w =>
          efu prog (Instr.storeAt 3 t_30 t_26) w fun u_31 w =>
          pvv prog (Instr.indexAt 22 data_p0 t_22) w fun t_32 w =>
          efu prog (Instr.storeAt 3 t_32 t_28) w fun u_33 w =>
          pvv prog (binOp .add 3 idx_10 (.int .i64 1)) w fun t_34 w =>
          again_11 [t_34] w) fun k_37 =>
        pvv prog (binOp .geq 3 t_20 t_0) w fun t_38 w =>
        cd t_38 (
          pvv prog (binOp .sub 3 t_20 t_0) w fun t_39 w =>
          k_37 [t_39] w) <|
        k_37 [t_20] w)) <|
      K (.tuple #[]) w) [t_9] w)) <|
  K (.tuple #[]) w
theorem B110_eq (data_p0 a_p1 b_p2 : Value) (w : World) (K : Value → World → Prop) : denFn prog Tryz.f110 T110 [data_p0, a_p1, b_p2] w K = B110 data_p0 a_p1 b_p2 w K := by kernel_rfl
theorem c110 {data_p0 a_p1 b_p2 : Value} {w : World} {K : Value → World → Prop} (h : B110 data_p0 a_p1 b_p2 w K) : Calls prog 110 #[data_p0, a_p1, b_p2] w (Ret K) :=
  denFn_calls Tryz.func110 T110_ok (Eq.mpr (B110_eq data_p0 a_p1 b_p2 w K) h)

-- 109 slices.heapSortOrdered[int]
def T109 : Ann := (.seq .none (.seq .none (.seq .none (.seq (.seq .none (.block (.loop 133956096 [9] (.seq (.seq .none (.seq .none .none)) (.seq (.block .none) .none))))) (.seq .none (.block (.loop 72057593501058048 [10] (.seq (.seq .none (.seq .none .none)) (.seq (.block (.seq (.draw [.op 0 .pure, .op 1 .pure, .op 2 .pure, .op 3 .pure, .op 4 .pure, .op 5 .pure, .op 6 .pure, .op 7 .pure, .op 8 .pure, .op 9 .pure, .op 10 .pure, .op 12 .pure, .op 13 .pure, .op 14 .pure, .op 11 .load, .op 15 .load, .op 16 .pure, .op 17 .eff, .op 18 .pure, .op 19 .eff]) .none)) .none)))))))))
theorem T109_ok : chkFn prog Tryz.f109 T109 = true := by kernel_rfl
def B109 (data_p0 a_p1 b_p2 : Value) (w : World) (K : Value → World → Prop) : Prop :=
  pvv prog (binOp .sub 3 b_p2 a_p1) w fun t_0 w =>
  pvv prog (binOp .sub 3 t_0 (.int .i64 1)) w fun t_1 w =>
  pvv prog (binOp .quo 3 t_1 (.int .i64 2)) w fun t_2 w =>
  lp (fun σ w again_4 => pop σ fun i_3 σ => fin σ <|
    pvv prog (binOp .geq 3 i_3 (.int .i64 0)) w fun t_5 w =>
    cd t_5 (
      Calls prog 119 #[data_p0, i_3, t_0, a_p1] w (Ret fun t_6 w =>
      pvv prog (binOp .sub 3 i_3 (.int .i64 1)) w fun t_7 w =>
      again_4 [t_7] w)) <|
    pvv prog (binOp .sub 3 t_0 (.int .i64 1)) w fun t_8 w =>
    lp (fun σ w again_10 => pop σ fun i_9 σ => fin σ <|
      pvv prog (binOp .geq 3 i_9 (.int .i64 0)) w fun t_11 w =>
      cd t_11 (
        dr w fun w =>
        pvv prog (binOp .add 3 a_p1 i_9) w fun t_12 w =>
        pvv prog (binOp .add 3 a_p1 i_9) w fun t_13 w =>
        pvv prog (Instr.indexAt 22 data_p0 t_13) w fun t_14 w =>
        pvv prog (Instr.indexAt 22 data_p0 a_p1) w fun t_15 w =>
        bindS (vN (Instr.loadAt 3 t_14)) fun m_17 => ldv prog (Instr.loadAt 3 t_14) w fun t_16 w =>
        bindS (vN (Instr.loadAt 3 t_15)) fun m_19 => ldv prog (Instr.loadAt 3 t_15) w fun t_18 w =>
        pvv prog (Instr.indexAt 22 data_p0 a_p1) w fun t_20 w =>
        efu prog (Instr.storeAt 3 t_20 t_16) w fun u_21 w =>
        pvv prog (Instr.indexAt 22 data_p0 t_12) w fun t_22 w =>
        efu prog (Instr.storeAt 3 t_22 t_18) w fun u_23 w =>
        Calls prog 119 #[data_p0, (.int .i64 0), i_9, a_p1] w (Ret fun t_24 w =>
        pvv prog (binOp .sub 3 i_9 (.int .i64 1)) w fun t_25 w =>
        again_10 [t_25] w)) <|
      K (.tuple #[]) w) [t_8] w) [t_2] w
theorem B109_eq (data_p0 a_p1 b_p2 : Value) (w : World) (K : Value → World → Prop) : denFn prog Tryz.f109 T109 [data_p0, a_p1, b_p2] w K = B109 data_p0 a_p1 b_p2 w K := by kernel_rfl
theorem c109 {data_p0 a_p1 b_p2 : Value} {w : World} {K : Value → World → Prop} (h : B109 data_p0 a_p1 b_p2 w K) : Calls prog 109 #[data_p0, a_p1, b_p2] w (Ret K) :=
  denFn_calls Tryz.func109 T109_ok (Eq.mpr (B109_eq data_p0 a_p1 b_p2 w K) h)

-- 121 (*slices.xorshift).Next
def T121 : Ann := (.seq .none (.seq (.draw [.op 0 .pure, .op 1 .pure, .op 3 .pure, .op 4 .pure, .op 2 .load, .op 5 .load, .op 6 .pure, .op 7 .pure, .op 8 .pure, .op 9 .eff]) (.seq (.draw [.op 0 .pure, .op 1 .pure, .op 3 .pure, .op 4 .pure, .op 2 .load, .op 5 .load, .op 6 .pure, .op 7 .pure, .op 8 .pure, .op 9 .eff]) (.seq (.draw [.op 0 .pure, .op 1 .pure, .op 3 .pure, .op 4 .pure, .op 2 .load, .op 5 .load, .op 6 .pure, .op 7 .pure, .op 8 .pure, .op 9 .eff]) (.seq .none .none)))))
theorem T121_ok : chkFn prog Tryz.f121 T121 = true := by kernel_rfl
def B121 (r_p0 : Value) (w : World) (K : Value → World → Prop) : Prop :=
  dr w fun w =>
  pv prog (oNil r_p0) w fun t_0 w =>
  pv prog (oNil r_p0) w fun t_1 w =>
  bindS (vN (Instr.loadAt 168 t_0)) fun m_3 => ldv prog (Instr.loadAt 168 t_0) w fun t_2 w =>
  bindS (vN (Instr.loadAt 168 t_1)) fun m_5 => ldv prog (Instr.loadAt 168 t_1) w fun t_4 w =>
  pvv prog (binOp .shl 168 t_4 (.int .u64 13)) w fun t_6 w =>
  pvv prog (binOp .xor 168 t_2 t_6) w fun t_7 w =>
  pv prog (oNil r_p0) w fun t_8 w =>
  efu prog (Instr.storeAt 168 t_8 t_7) w fun u_9 w =>
  dr w fun w =>
  pv prog (oNil r_p0) w fun t_10 w =>
  pv prog (oNil r_p0) w fun t_11 w =>
  bindS (vN (Instr.loadAt 168 t_10)) fun m_13 => ldv prog (Instr.loadAt 168 t_10) w fun t_12 w =>
  bindS (vN (Instr.loadAt 168 t_11)) fun m_15 => ldv prog (Instr.loadAt 168 t_11) w fun t_14 w =>
  pvv prog (binOp .shr 168 t_14 (.int .u64 7)) w fun t_16 w =>
  pvv prog (binOp .xor 168 t_12 t_16) w fun t_17 w =>
  pv prog (oNil r_p0) w fun t_18 w =>
  efu prog (Instr.storeAt 168 t_18 t_17) w fun u_19 w =>
  dr w fun w =>
  pv prog (oNil r_p0) w fun t_20 w =>
  pv prog (oNil r_p0) w fun t_21 w =>
  bindS (vN (Instr.loadAt 168 t_20)) fun m_23 => ldv prog (Instr.loadAt 168 t_20) w fun t_22 w =>
  bindS (vN (Instr.loadAt 168 t_21)) fun m_25 => ldv prog (Instr.loadAt 168 t_21) w fun t_24 w =>
  pvv prog (binOp .shl 168 t_24 (.int .u64 17)) w fun t_26 w =>
  pvv prog (binOp .xor 168 t_22 t_26) w fun t_27 w =>
  pv prog (oNil r_p0) w fun t_28 w =>
  efu prog (Instr.storeAt 168 t_28 t_27) w fun u_29 w =>
  pv prog (oNil r_p0) w fun t_30 w =>
  ldv prog (Instr.loadAt 168 t_30) w fun t_31 w =>
  K t_31 w
theorem B121_eq (r_p0 : Value) (w : World) (K : Value → World → Prop) : denFn prog Tryz.f121 T121 [r_p0] w K = B121 r_p0 w K := by kernel_rfl
theorem c121 {r_p0 : Value} {w : World} {K : Value → World → Prop} (h : B121 r_p0 w K) : Calls prog 121 #[r_p0] w (Ret K) :=
  denFn_calls Tryz.func121 T121_ok (Eq.mpr (B121_eq r_p0 w K) h)

-- 117 math/bits.Len32
def T117 : Ann := (.seq .none (.meet 125 [0, 2] (.seq .none (.seq (.seq .none .none) .none)) (.meet 8069 [0, 2] (.seq .none (.seq (.seq .none .none) .none)) (.seq .none .none))))
theorem T117_ok : chkFn prog Tryz.f117 T117 = true := by kernel_rfl
def B117 (x_p0 : Value) (w : World) (K : Value → World → Prop) : Prop :=
  jn (fun σ w => pop σ fun x_0 σ => pop σ fun n_1 σ => fin σ <|
    jn (fun σ w => pop σ fun x_2 σ => pop σ fun n_3 σ => fin σ <|
      pvv prog (convert 165 5 x_2) w fun t_4 w =>
      pvv prog (Instr.index 9 (.string ⟨#[0, 1, 2, 2, 3, 3, 3, 3, 4, 4, 4, 4, 4, 4, 4, 4, 5, 5, 5, 5, 5, 5, 5, 5, 5, 5, 5, 5, 5, 5, 5, 5, 6, 6, 6, 6, 6, 6, 6, 6, 6, 6, 6, 6, 6, 6, 6, 6, 6, 6, 6, 6, 6, 6, 6, 6, 6, 6, 6, 6, 6, 6, 6, 6, 7, 7, 7, 7, 7, 7, 7, 7, 7, 7, 7, 7, 7, 7, 7, 7, 7, 7, 7, 7, 7, 7, 7, 7, 7, 7, 7, 7, 7, 7, 7, 7, 7, 7, 7, 7, 7, 7, 7, 7, 7, 7, 7, 7, 7, 7, 7, 7, 7, 7, 7, 7, 7, 7, 7, 7, 7, 7, 7, 7, 7, 7, 7, 7, 8, 8, 8, 8, 8, 8, 8, 8, 8, 8, 8, 8, 8, 8, 8, 8, 8, 8, 8, 8, 8, 8, 8, 8, 8, 8, 8, 8, 8, 8, 8, 8, 8, 8, 8, 8, 8, 8, 8, 8, 8, 8, 8, 8, 8, 8, 8, 8, 8, 8, 8, 8, 8, 8, 8, 8, 8, 8, 8, 8, 8, 8, 8, 8, 8, 8, 8, 8, 8, 8, 8, 8, 8, 8, 8, 8, 8, 8, 8, 8, 8, 8, 8, 8, 8, 8, 8, 8, 8, 8, 8, 8, 8, 8, 8, 8, 8, 8, 8, 8, 8, 8, 8, 8, 8, 8, 8, 8, 8, 8, 8, 8, 8, 8, 8, 8, 8, 8, 8, 8, 8, 8, 8, 8, 8, 8, 8, 8]⟩) t_4) w fun t_5 w =>
      pvv prog (convert 5 3 t_5) w fun t_6 w =>
      pvv prog (binOp .add 3 n_3 t_6) w fun t_7 w =>
      K t_7 w) fun k_8 =>
    pvv prog (binOp .geq 165 x_0 (.int .u32 256)) w fun t_9 w =>
    cd t_9 (
      pvv prog (binOp .shr 165 x_0 (.int .u64 8)) w fun t_10 w =>
      pvv prog (binOp .add 3 n_1 (.int .i64 8)) w fun t_11 w =>
      k_8 [t_10, t_11] w) <|
    k_8 [x_0, n_1] w) fun k_12 =>
  pvv prog (binOp .geq 165 x_p0 (.int .u32 65536)) w fun t_13 w =>
  cd t_13 (
    pvv prog (binOp .shr 165 x_p0 (.int .u64 16)) w fun t_14 w =>
    k_12 [t_14, (.int .i64 16)] w) <|
  k_12 [x_p0, (.int .i64 0)] w
theorem B117_eq (x_p0 : Value) (w : World) (K : Value → World → Prop) : denFn prog Tryz.f117 T117 [x_p0] w K = B117 x_p0 w K := by kernel_rfl
theorem c117 {x_p0 : Value} {w : World} {K : Value → World → Prop} (h : B117 x_p0 w K) : Calls prog 117 #[x_p0] w (Ret K) :=
  denFn_calls Tryz.func117 T117_ok (Eq.mpr (B117_eq x_p0 w K) h)

-- 48 (*holdfast/block.Disk).Fork
def T48 : Ann := (.seq .none (.seq (.seq .none (.seq (.seq .none .none) .none)) (.seq (.draw [.op 0 .pure, .op 1 .pure, .op 2 .pure, .op 5 .pure, .op 6 .pure, .op 7 .pure, .op 3 .load, .op 8 .load, .op 4 .eff, .op 9 .eff, .op 10 .pure, .op 11 .eff, .op 12 .pure]) (.seq (.draw [.op 0 .pure, .op 1 .pure, .op 2 .pure, .op 3 .pure, .op 4 .pure, .op 5 .pure, .op 6 .eff, .op 7 .eff]) (.seq .none .none)))))
theorem T48_ok : chkFn prog Tryz.f48 T48 = true := by kernel_rfl
def B48 (d_p0 : Value) (w : World) (K : Value → World → Prop) : Prop :=
  pvv prog (oEq .eql 48 (.tmp 4) (.const (.pointer none)) d_p0 (.pointer none)) w fun t_0 w =>
  cd t_0 (
    K (.pointer none) w) <|
  dr w fun w =>
  pv prog (oNil d_p0) w fun t_1 w =>
  pvv prog (Instr.fieldAt 101 t_1 0) w fun t_2 w =>
  pv prog (oNil d_p0) w fun t_3 w =>
  pvv prog (Instr.fieldAt 101 t_3 1) w fun t_4 w =>
  bindS (vN (Instr.loadAt 40 t_2)) fun m_6 => ldv prog (Instr.loadAt 40 t_2) w fun t_5 w =>
  bindS (vN (Instr.loadAt 99 t_4)) fun m_8 => ldv prog (Instr.loadAt 99 t_4) w fun t_7 w =>
  Calls prog 83 #[t_5] w (Ret fun t_9 w => stay prog none m_8 t_7 w <| 
  Calls prog 84 #[t_7] w (Ret fun t_10 w => stay prog none m_6 t_5 w <| 
  pvv prog (Instr.build 101 #[(0, t_9), (1, t_10)]) w fun t_11 w =>
  efv prog (Instr.box 101 t_11) w fun t_12 w => stay prog none m_8 t_7 w <| stay prog none m_6 t_5 w <| 
  dr w fun w =>
  pv prog (oNil t_12) w fun t_13 w =>
  pvv prog (Instr.fieldAt 101 t_13 2) w fun t_14 w =>
  pv prog (oNil d_p0) w fun t_15 w =>
  pvv prog (Instr.fieldAt 101 t_15 2) w fun t_16 w =>
  Calls prog 51 #[t_16] w (Ret fun t_17 w =>
  Calls prog 85 #[t_14, t_17] w (Ret fun t_18 w =>
  K t_12 w))))
theorem B48_eq (d_p0 : Value) (w : World) (K : Value → World → Prop) : denFn prog Tryz.f48 T48 [d_p0] w K = B48 d_p0 w K := by kernel_rfl
theorem c48 {d_p0 : Value} {w : World} {K : Value → World → Prop} (h : B48 d_p0 w K) : Calls prog 48 #[d_p0] w (Ret K) :=
  denFn_calls Tryz.func48 T48_ok (Eq.mpr (B48_eq d_p0 w K) h)

-- 22 holdfast/holdfastref01.SameAll
def T22 : Ann := (.seq .none (.seq (.seq .none (.seq (.seq .none .none) .none)) (.seq (.seq .none (.block (.loop 134215728 [5] (.seq (.seq .none (.seq .none .none)) (.seq (.block (.seq (.draw [.op 0 .pure, .op 1 .pure, .op 2 .pure, .op 4 .pure, .op 5 .pure, .op 6 .pure, .op 3 .load, .op 7 .load, .op 8 .eff, .op 9 .pure]) (.seq (.seq .none .none) .none))) .none))))) (.seq .none .none))))
theorem T22_ok : chkFn prog Tryz.f22 T22 = true := by kernel_rfl
def B22 (a_p0 b_p1 : Value) (w : World) (K : Value → World → Prop) : Prop :=
  pv prog (oBi .len #[40] 3 #[false] #[a_p0]) w fun t_0 w =>
  pv prog (oBi .len #[40] 3 #[false] #[b_p1]) w fun t_1 w =>
  pvv prog (oEq .neq 3 (.tmp 7) (.tmp 9) t_0 t_1) w fun t_2 w =>
  cd t_2 (
    K (.bool false) w) <|
  lp (fun σ w again_4 => pop σ fun i_3 σ => fin σ <|
    pv prog (oBi .len #[40] 3 #[false] #[a_p0]) w fun t_5 w =>
    pvv prog (binOp .lss 3 i_3 t_5) w fun t_6 w =>
    cd t_6 (
      dr w fun w =>
      pvv prog (Instr.indexAt 40 a_p0 i_3) w fun t_7 w =>
      pvv prog (Instr.indexAt 40 b_p1 i_3) w fun t_8 w =>
      bindS (vN (Instr.loadAt 30 t_7)) fun m_10 => ldv prog (Instr.loadAt 30 t_7) w fun t_9 w =>
      bindS (vN (Instr.loadAt 30 t_8)) fun m_12 => ldv prog (Instr.loadAt 30 t_8) w fun t_11 w =>
      Calls prog 15 #[t_9, t_11] w (Ret fun t_13 w =>
      pvv prog (Op.unary .not t_13) w fun t_14 w =>
      cd t_14 (
        K (.bool false) w) <|
      pvv prog (binOp .add 3 i_3 (.int .i64 1)) w fun t_15 w =>
      again_4 [t_15] w)) <|
    K (.bool true) w) [(.int .i64 0)] w
theorem B22_eq (a_p0 b_p1 : Value) (w : World) (K : Value → World → Prop) : denFn prog Tryz.f22 T22 [a_p0, b_p1] w K = B22 a_p0 b_p1 w K := by kernel_rfl
theorem c22 {a_p0 b_p1 : Value} {w : World} {K : Value → World → Prop} (h : B22 a_p0 b_p1 w K) : Calls prog 22 #[a_p0, b_p1] w (Ret K) :=
  denFn_calls Tryz.func22 T22_ok (Eq.mpr (B22_eq a_p0 b_p1 w K) h)

-- 125 slices.order2Ordered[int]
def T125 : Ann := (.seq .none (.seq (.seq (.draw [.op 0 .pure, .op 1 .pure, .op 2 .pure, .op 4 .pure, .op 5 .pure, .op 6 .pure, .op 3 .load, .op 7 .load, .op 8 .eff]) (.seq (.seq .none (.seq .none .none)) .none)) (.seq .none .none)))
theorem T125_ok : chkFn prog Tryz.f125 T125 = true := by kernel_rfl
def B125 (data_p0 a_p1 b_p2 swaps_p3 : Value) (w : World) (K : Value → World → Prop) : Prop :=
  dr w fun w =>
  pvv prog (Instr.indexAt 22 data_p0 b_p2) w fun t_0 w =>
  pvv prog (Instr.indexAt 22 data_p0 a_p1) w fun t_1 w =>
  bindS (vN (Instr.loadAt 3 t_0)) fun m_3 => ldv prog (Instr.loadAt 3 t_0) w fun t_2 w =>
  bindS (vN (Instr.loadAt 3 t_1)) fun m_5 => ldv prog (Instr.loadAt 3 t_1) w fun t_4 w =>
  Calls prog 114 #[t_2, t_4] w (Ret fun t_6 w =>
  cd t_6 (
    pv prog (oNil swaps_p3) w fun t_7 w =>
    ldv prog (Instr.loadAt 3 t_7) w fun t_8 w =>
    pvv prog (binOp .add 3 t_8 (.int .i64 1)) w fun t_9 w =>
    pv prog (oNil swaps_p3) w fun t_10 w =>
    efu prog (Instr.storeAt 3 t_10 t_9) w fun u_11 w =>
    K (.tuple #[b_p2, a_p1]) w) <|
  K (.tuple #[a_p1, b_p2]) w)
theorem B125_eq (data_p0 a_p1 b_p2 swaps_p3 : Value) (w : World) (K : Value → World → Prop) : denFn prog Tryz.f125 T125 [data_p0, a_p1, b_p2, swaps_p3] w K = B125 data_p0 a_p1 b_p2 swaps_p3 w K := by kernel_rfl
theorem c125 {data_p0 a_p1 b_p2 swaps_p3 : Value} {w : World} {K : Value → World → Prop} (h : B125 data_p0 a_p1 b_p2 swaps_p3 w K) : Calls prog 125 #[data_p0, a_p1, b_p2, swaps_p3] w (Ret K) :=
  denFn_calls Tryz.func125 T125_ok (Eq.mpr (B125_eq data_p0 a_p1 b_p2 swaps_p3 w K) h)

-- 37 (*holdfast/pager.Pager).look
def T37 : Ann := (.seq .none (.seq (.block (.seq .none (.seq (.seq .none .none) (.seq .none (.seq (.seq .none .none) .none))))) (.seq .none .none)))
theorem T37_ok : chkFn prog Tryz.f37 T37 = true := by kernel_rfl
def B37 (p_p0 n_p1 : Value) (w : World) (K : Value → World → Prop) : Prop :=
  pvv prog (oEq .eql 25 (.tmp 6) (.const (.pointer none)) p_p0 (.pointer none)) w fun t_0 w =>
  cd t_0 (
    K (.int .i64 1) w) <|
  pvv prog (binOp .lss 3 n_p1 (.int .i64 0)) w fun t_1 w =>
  gate (some (t_1, false)) (fun K => K n_p1 w) w fun t_2 w =>
  gate (some (t_1, false)) (fun K => K p_p0 w) w fun t_3 w =>
  gate (some (t_1, false)) (fun K => pv prog (oNil t_3) w K) w fun t_4 w =>
  gate (some (t_1, false)) (fun K => pvv prog (Instr.fieldAt 80 t_4 0) w K) w fun t_5 w =>
  gate (some (t_1, false)) (fun K => ldv prog (Instr.loadAt 42 t_5) w K) w fun t_6 w =>
  gate (some (t_1, false)) (fun K => Calls prog 41 #[t_6] w (Ret K)) w fun t_7 w =>
  gate (some (t_1, false)) (fun K => pvv prog (binOp .geq 3 t_2 t_7) w K) w fun t_8 w =>
  pv prog (oPick t_1 (.bool true) t_8) w fun t_9 w =>
  cd t_9 (
    K (.int .i64 2) w) <|
  K (.int .i64 0) w
theorem B37_eq (p_p0 n_p1 : Value) (w : World) (K : Value → World → Prop) : denFn prog Tryz.f37 T37 [p_p0, n_p1] w K = B37 p_p0 n_p1 w K := by kernel_rfl
theorem c37 {p_p0 n_p1 : Value} {w : World} {K : Value → World → Prop} (h : B37 p_p0 n_p1 w K) : Calls prog 37 #[p_p0, n_p1] w (Ret K) :=
  denFn_calls Tryz.func37 T37_ok (Eq.mpr (B37_eq p_p0 n_p1 w K) h)

-- 88 slices.Backward[[]holdfast/block.write,holdfast/block.write]$1
def T88 : Ann := (.seq .none (.block (.loop 524168 [3] (.seq (.seq .none (.seq .none .none)) (.seq (.block (.seq .none (.seq .none .none))) .none)))))
theorem T88_ok : chkFn prog Tryz.f88 T88 = true := by kernel_rfl
def B88 (yield_p0 x_p1 : Value) (w : World) (K : Value → World → Prop) : Prop :=
  ldv prog (Instr.loadAt 99 x_p1) w fun t_0 w =>
  pv prog (oBi .len #[99] 3 #[false] #[t_0]) w fun t_1 w =>
  pvv prog (binOp .sub 3 t_1 (.int .i64 1)) w fun t_2 w =>
  lp (fun σ w again_4 => pop σ fun i_3 σ => fin σ <|
    pvv prog (binOp .geq 3 i_3 (.int .i64 0)) w fun t_5 w =>
    cd t_5 (
      ldv prog (Instr.loadAt 99 x_p1) w fun t_6 w =>
      pvv prog (Instr.indexAt 99 t_6 i_3) w fun t_7 w =>
      ldv prog (Instr.loadAt 108 t_7) w fun t_8 w =>
      ef prog (oCall yield_p0 #[i_3, t_8]) w fun t_9 w =>
      pvv prog (Op.unary .not t_9) w fun t_10 w =>
      cd t_10 (
        K (.tuple #[]) w) <|
      pvv prog (binOp .sub 3 i_3 (.int .i64 1)) w fun t_11 w =>
      again_4 [t_11] w) <|
    K (.tuple #[]) w) [t_2] w
theorem B88_eq (yield_p0 x_p1 : Value) (w : World) (K : Value → World → Prop) : denFn prog Tryz.f88 T88 [yield_p0, x_p1] w K = B88 yield_p0 x_p1 w K := by kernel_rfl
theorem c88 {yield_p0 x_p1 : Value} {w : World} {K : Value → World → Prop} (h : B88 yield_p0 x_p1 w K) : Calls prog 88 #[yield_p0, x_p1] w (Ret K) :=
  denFn_calls Tryz.func88 T88_ok (Eq.mpr (B88_eq yield_p0 x_p1 w K) h)

-- 36 holdfast/holdfastref04.New
def T36 : Ann := (.seq .none (.seq (.seq .none (.seq (.seq .none .none) .none)) (.seq (.seq .none (.seq (.seq .none .none) .none)) (.seq .none .none))))
theorem T36_ok : chkFn prog Tryz.f36 T36 = true := by kernel_rfl
def B36 (l_p0 most_p1 : Value) (w : World) (K : Value → World → Prop) : Prop :=
  pvv prog (oEq .eql 65 (.tmp 6) (.const (.pointer none)) l_p0 (.pointer none)) w fun t_0 w =>
  cd t_0 (
    K (.tuple #[(.pointer none), (.int .i64 1)]) w) <|
  pvv prog (binOp .lss 3 most_p1 (.int .i64 1)) w fun t_1 w =>
  gate (some (t_1, false)) (fun K => K most_p1 w) w fun t_2 w =>
  gate (some (t_1, false)) (fun K => pvv prog (binOp .gtr 3 t_2 (.int .i64 64)) w K) w fun t_3 w =>
  pv prog (oPick t_1 (.bool true) t_3) w fun t_4 w =>
  cd t_4 (
    K (.tuple #[(.pointer none), (.int .i64 2)]) w) <|
  pvv prog (Instr.build 125 #[(0, l_p0), (1, most_p1)]) w fun t_5 w =>
  efv prog (Instr.box 125 t_5) w fun t_6 w =>
  K (.tuple #[t_6, (.int .i64 0)]) w
theorem B36_eq (l_p0 most_p1 : Value) (w : World) (K : Value → World → Prop) : denFn prog Tryz.f36 T36 [l_p0, most_p1] w K = B36 l_p0 most_p1 w K := by kernel_rfl
theorem c36 {l_p0 most_p1 : Value} {w : World} {K : Value → World → Prop} (h : B36 l_p0 most_p1 w K) : Calls prog 36 #[l_p0, most_p1] w (Ret K) :=
  denFn_calls Tryz.func36 T36_ok (Eq.mpr (B36_eq l_p0 most_p1 w K) h)

-- 123 slices.medianOrdered[int]
def T123 : Ann := (.seq .none (.seq .none (.seq .none (.seq .none (.seq .none .none)))))
theorem T123_ok : chkFn prog Tryz.f123 T123 = true := by kernel_rfl
def B123 (data_p0 a_p1 b_p2 c_p3 swaps_p4 : Value) (w : World) (K : Value → World → Prop) : Prop :=
  Calls prog 125 #[data_p0, a_p1, b_p2, swaps_p4] w (Ret fun t_0 w =>
  pvv prog (Instr.extract t_0 0) w fun t_1 w =>
  pvv prog (Instr.extract t_0 1) w fun t_2 w =>
  Calls prog 125 #[data_p0, t_2, c_p3, swaps_p4] w (Ret fun t_3 w =>
  pvv prog (Instr.extract t_3 0) w fun t_4 w =>
  pvv prog (Instr.extract t_3 1) w fun t_5 w =>
  Calls prog 125 #[data_p0, t_1, t_4, swaps_p4] w (Ret fun t_6 w =>
  pvv prog (Instr.extract t_6 0) w fun t_7 w =>
  pvv prog (Instr.extract t_6 1) w fun t_8 w =>
  K t_8 w)))
theorem B123_eq (data_p0 a_p1 b_p2 c_p3 swaps_p4 : Value) (w : World) (K : Value → World → Prop) : denFn prog Tryz.f123 T123 [data_p0, a_p1, b_p2, c_p3, swaps_p4] w K = B123 data_p0 a_p1 b_p2 c_p3 swaps_p4 w K := by kernel_rfl
theorem c123 {data_p0 a_p1 b_p2 c_p3 swaps_p4 : Value} {w : World} {K : Value → World → Prop} (h : B123 data_p0 a_p1 b_p2 c_p3 swaps_p4 w K) : Calls prog 123 #[data_p0, a_p1, b_p2, c_p3, swaps_p4] w (Ret K) :=
  denFn_calls Tryz.func123 T123_ok (Eq.mpr (B123_eq data_p0 a_p1 b_p2 c_p3 swaps_p4 w K) h)

-- 107 maps.Keys[map[int]int,int,int]$1
def T107 : Ann := (.seq .none (.block (.loop 16328 [] (.seq .none (.seq (.seq .none .none) (.block (.seq .none (.seq .none (.seq .none .none)))))))))
theorem T107_ok : chkFn prog Tryz.f107 T107 = true := by kernel_rfl
def B107 (yield_p0 x_p1 : Value) (w : World) (K : Value → World → Prop) : Prop :=
  ldv prog (Instr.loadAt 95 x_p1) w fun t_0 w =>
  efv prog (Instr.range 95 t_0) w fun t_1 w =>
  lp (fun σ w again_2 => fin σ <|
    efv prog (Instr.next t_1 false 0) w fun t_3 w =>
    pvv prog (Instr.extract t_3 0) w fun t_4 w =>
    cd t_4 (
      efv prog (Instr.entry t_1) w fun t_5 w =>
      pvv prog (Instr.extract t_5 0) w fun t_6 w =>
      ef prog (oCall yield_p0 #[t_6]) w fun t_7 w =>
      pvv prog (Op.unary .not t_7) w fun t_8 w =>
      cd t_8 (
        K (.tuple #[]) w) <|
      again_2 [] w) <|
    K (.tuple #[]) w) [] w
theorem B107_eq (yield_p0 x_p1 : Value) (w : World) (K : Value → World → Prop) : denFn prog Tryz.f107 T107 [yield_p0, x_p1] w K = B107 yield_p0 x_p1 w K := by kernel_rfl
theorem c107 {yield_p0 x_p1 : Value} {w : World} {K : Value → World → Prop} (h : B107 yield_p0 x_p1 w K) : Calls prog 107 #[yield_p0, x_p1] w (Ret K) :=
  denFn_calls Tryz.func107 T107_ok (Eq.mpr (B107_eq yield_p0 x_p1 w K) h)

-- 70 slices.IndexFunc[[]int,int]
def T70 : Ann := (.seq .none (.seq (.seq .none (.block (.loop 524080 [8] (.seq .none (.seq (.seq .none .none) (.seq (.block (.seq .none (.seq .none (.seq (.seq .none .none) .none)))) .none)))))) (.seq .none .none)))
theorem T70_ok : chkFn prog Tryz.f70 T70 = true := by kernel_rfl
def B70 (s_p0 f_p1 : Value) (w : World) (K : Value → World → Prop) : Prop :=
  pv prog (oBi .len #[22] 3 #[false] #[s_p0]) w fun t_0 w =>
  lp (fun σ w again_2 => pop σ fun t_1 σ => fin σ <|
    pvv prog (binOp .lss 3 t_1 t_0) w fun t_3 w =>
    cd t_3 (
      pvv prog (Instr.indexAt 22 s_p0 t_1) w fun t_4 w =>
      ldv prog (Instr.loadAt 3 t_4) w fun t_5 w =>
      ef prog (oCall f_p1 #[t_5]) w fun t_6 w =>
      cd t_6 (
        K t_1 w) <|
      pvv prog (binOp .add 3 t_1 (.int .i64 1)) w fun t_7 w =>
      again_2 [t_7] w) <|
    K (.int .i64 (-1)) w) [(.int .i64 0)] w
theorem B70_eq (s_p0 f_p1 : Value) (w : World) (K : Value → World → Prop) : denFn prog Tryz.f70 T70 [s_p0, f_p1] w K = B70 s_p0 f_p1 w K := by kernel_rfl
theorem c70 {s_p0 f_p1 : Value} {w : World} {K : Value → World → Prop} (h : B70 s_p0 f_p1 w K) : Calls prog 70 #[s_p0, f_p1] w (Ret K) :=
  denFn_calls Tryz.func70 T70_ok (Eq.mpr (B70_eq s_p0 f_p1 w K) h)

-- 20 (*holdfast/pager.Pager).Abort
def T20 : Ann := (.seq .none (.seq (.seq .none (.seq (.seq .none .none) .none)) (.seq .none (.seq .none (.seq .none .none)))))
theorem T20_ok : chkFn prog Tryz.f20 T20 = true := by kernel_rfl
def B20 (p_p0 : Value) (w : World) (K : Value → World → Prop) : Prop :=
  pvv prog (oEq .eql 25 (.tmp 4) (.const (.pointer none)) p_p0 (.pointer none)) w fun t_0 w =>
  cd t_0 (
    K (.int .i64 0) w) <|
  pv prog (oNil p_p0) w fun t_1 w =>
  pvv prog (Instr.fieldAt 80 t_1 2) w fun t_2 w =>
  ldv prog (Instr.loadAt 72 t_2) w fun t_3 w =>
  ld prog (oBi .len #[72] 3 #[false] #[t_3]) w fun t_4 w =>
  pv prog (oNil p_p0) w fun t_5 w =>
  pvv prog (Instr.fieldAt 80 t_5 2) w fun t_6 w =>
  ldv prog (Instr.loadAt 72 t_6) w fun t_7 w =>
  ef prog (oBi .clear #[72] 0 #[false] #[t_7]) w fun u_8 w =>
  K t_4 w
theorem B20_eq (p_p0 : Value) (w : World) (K : Value → World → Prop) : denFn prog Tryz.f20 T20 [p_p0] w K = B20 p_p0 w K := by kernel_rfl
theorem c20 {p_p0 : Value} {w : World} {K : Value → World → Prop} (h : B20 p_p0 w K) : Calls prog 20 #[p_p0] w (Ret K) :=
  denFn_calls Tryz.func20 T20_ok (Eq.mpr (B20_eq p_p0 w K) h)

-- 19 (*holdfast/pager.Pager).Dirty
def T19 : Ann := (.seq .none (.seq (.seq .none (.seq (.seq .none .none) .none)) (.seq .none .none)))
theorem T19_ok : chkFn prog Tryz.f19 T19 = true := by kernel_rfl
def B19 (p_p0 : Value) (w : World) (K : Value → World → Prop) : Prop :=
  pvv prog (oEq .eql 25 (.tmp 3) (.const (.pointer none)) p_p0 (.pointer none)) w fun t_0 w =>
  cd t_0 (
    K (.slice none 0 0) w) <|
  pv prog (oNil p_p0) w fun t_1 w =>
  pvv prog (Instr.fieldAt 80 t_1 2) w fun t_2 w =>
  ldv prog (Instr.loadAt 72 t_2) w fun t_3 w =>
  Calls prog 46 #[t_3] w (Ret fun t_4 w =>
  Calls prog 45 #[t_4] w (Ret fun t_5 w =>
  K t_5 w))
theorem B19_eq (p_p0 : Value) (w : World) (K : Value → World → Prop) : denFn prog Tryz.f19 T19 [p_p0] w K = B19 p_p0 w K := by kernel_rfl
theorem c19 {p_p0 : Value} {w : World} {K : Value → World → Prop} (h : B19 p_p0 w K) : Calls prog 19 #[p_p0] w (Ret K) :=
  denFn_calls Tryz.func19 T19_ok (Eq.mpr (B19_eq p_p0 w K) h)

-- 53 (*holdfast/block.Disk).Blocks
def T53 : Ann := (.seq .none (.seq (.seq .none (.seq (.seq .none .none) .none)) (.seq .none .none)))
theorem T53_ok : chkFn prog Tryz.f53 T53 = true := by kernel_rfl
def B53 (d_p0 : Value) (w : World) (K : Value → World → Prop) : Prop :=
  pvv prog (oEq .eql 48 (.tmp 3) (.const (.pointer none)) d_p0 (.pointer none)) w fun t_0 w =>
  cd t_0 (
    K (.int .i64 0) w) <|
  pv prog (oNil d_p0) w fun t_1 w =>
  pvv prog (Instr.fieldAt 101 t_1 0) w fun t_2 w =>
  ldv prog (Instr.loadAt 40 t_2) w fun t_3 w =>
  pv prog (oBi .len #[40] 3 #[false] #[t_3]) w fun t_4 w =>
  K t_4 w
theorem B53_eq (d_p0 : Value) (w : World) (K : Value → World → Prop) : denFn prog Tryz.f53 T53 [d_p0] w K = B53 d_p0 w K := by kernel_rfl
theorem c53 {d_p0 : Value} {w : World} {K : Value → World → Prop} (h : B53 d_p0 w K) : Calls prog 53 #[d_p0] w (Ret K) :=
  denFn_calls Tryz.func53 T53_ok (Eq.mpr (B53_eq d_p0 w K) h)

-- 122 slices.medianAdjacentOrdered[int]
def T122 : Ann := (.seq .none (.seq .none .none))
theorem T122_ok : chkFn prog Tryz.f122 T122 = true := by kernel_rfl
def B122 (data_p0 a_p1 swaps_p2 : Value) (w : World) (K : Value → World → Prop) : Prop :=
  pvv prog (binOp .sub 3 a_p1 (.int .i64 1)) w fun t_0 w =>
  pvv prog (binOp .add 3 a_p1 (.int .i64 1)) w fun t_1 w =>
  Calls prog 123 #[data_p0, t_0, a_p1, t_1, swaps_p2] w (Ret fun t_2 w =>
  K t_2 w)
theorem B122_eq (data_p0 a_p1 swaps_p2 : Value) (w : World) (K : Value → World → Prop) : denFn prog Tryz.f122 T122 [data_p0, a_p1, swaps_p2] w K = B122 data_p0 a_p1 swaps_p2 w K := by kernel_rfl
theorem c122 {data_p0 a_p1 swaps_p2 : Value} {w : World} {K : Value → World → Prop} (h : B122 data_p0 a_p1 swaps_p2 w K) : Calls prog 122 #[data_p0, a_p1, swaps_p2] w (Ret K) :=
  denFn_calls Tryz.func122 T122_ok (Eq.mpr (B122_eq data_p0 a_p1 swaps_p2 w K) h)

-- 47 slices.Clone[[]int,int]
def T47 : Ann := (.seq .none (.seq (.seq .none (.seq (.seq .none .none) .none)) (.seq .none .none)))
theorem T47_ok : chkFn prog Tryz.f47 T47 = true := by kernel_rfl
def B47 (s_p0 : Value) (w : World) (K : Value → World → Prop) : Prop :=
  pvv prog (oEq .eql 22 (.tmp 3) (.const (.slice none 0 0)) s_p0 (.slice none 0 0)) w fun t_0 w =>
  cd t_0 (
    K (.slice none 0 0) w) <|
  efv prog (Instr.buildSlice 22 0 #[]) w fun t_1 w =>
  ef prog (oBi .append #[22, 22] 22 #[false, false] #[t_1, s_p0]) w fun t_2 w =>
  K t_2 w
theorem B47_eq (s_p0 : Value) (w : World) (K : Value → World → Prop) : denFn prog Tryz.f47 T47 [s_p0] w K = B47 s_p0 w K := by kernel_rfl
theorem c47 {s_p0 : Value} {w : World} {K : Value → World → Prop} (h : B47 s_p0 w K) : Calls prog 47 #[s_p0] w (Ret K) :=
  denFn_calls Tryz.func47 T47_ok (Eq.mpr (B47_eq s_p0 w K) h)

-- 26 (*holdfast/block.Disk).Count
def T26 : Ann := (.seq .none (.seq (.seq .none (.seq (.seq .none .none) .none)) (.seq .none .none)))
theorem T26_ok : chkFn prog Tryz.f26 T26 = true := by kernel_rfl
def B26 (d_p0 : Value) (w : World) (K : Value → World → Prop) : Prop :=
  pvv prog (oEq .eql 48 (.tmp 3) (.const (.pointer none)) d_p0 (.pointer none)) w fun t_0 w =>
  cd t_0 (
    K (.int .i64 0) w) <|
  pv prog (oNil d_p0) w fun t_1 w =>
  pvv prog (Instr.fieldAt 101 t_1 2) w fun t_2 w =>
  Calls prog 51 #[t_2] w (Ret fun t_3 w =>
  K t_3 w)
theorem B26_eq (d_p0 : Value) (w : World) (K : Value → World → Prop) : denFn prog Tryz.f26 T26 [d_p0] w K = B26 d_p0 w K := by kernel_rfl
theorem c26 {d_p0 : Value} {w : World} {K : Value → World → Prop} (h : B26 d_p0 w K) : Calls prog 26 #[d_p0] w (Ret K) :=
  denFn_calls Tryz.func26 T26_ok (Eq.mpr (B26_eq d_p0 w K) h)

-- 102 math/bits.Len
def T102 : Ann := (.seq .none (.seq (.seq (.seq .none .none) .none) (.seq .none .none)))
theorem T102_ok : chkFn prog Tryz.f102 T102 = true := by kernel_rfl
def B102 (x_p0 : Value) (w : World) (K : Value → World → Prop) : Prop :=
  cd (.bool false) (
    pvv prog (convert 120 165 x_p0) w fun t_0 w =>
    Calls prog 117 #[t_0] w (Ret fun t_1 w =>
    K t_1 w)) <|
  Calls prog 118 #[x_p0] w (Ret fun t_2 w =>
  K t_2 w)
theorem B102_eq (x_p0 : Value) (w : World) (K : Value → World → Prop) : denFn prog Tryz.f102 T102 [x_p0] w K = B102 x_p0 w K := by kernel_rfl
theorem c102 {x_p0 : Value} {w : World} {K : Value → World → Prop} (h : B102 x_p0 w K) : Calls prog 102 #[x_p0] w (Ret K) :=
  denFn_calls Tryz.func102 T102_ok (Eq.mpr (B102_eq x_p0 w K) h)

-- 68 (*holdfast/pager.Pager).drop$1
def T68 : Ann := (.seq .none (.seq .none .none))
theorem T68_ok : chkFn prog Tryz.f68 T68 = true := by kernel_rfl
def B68 (k_p0 x_p1 : Value) (w : World) (K : Value → World → Prop) : Prop :=
  ldv prog (Instr.loadAt 3 x_p1) w fun t_0 w =>
  pvv prog (oEq .eql 3 (.tmp 4) (.tmp 5) k_p0 t_0) w fun t_1 w =>
  K t_1 w
theorem B68_eq (k_p0 x_p1 : Value) (w : World) (K : Value → World → Prop) : denFn prog Tryz.f68 T68 [k_p0, x_p1] w K = B68 k_p0 x_p1 w K := by kernel_rfl
theorem c68 {k_p0 x_p1 : Value} {w : World} {K : Value → World → Prop} (h : B68 k_p0 x_p1 w K) : Calls prog 68 #[k_p0, x_p1] w (Ret K) :=
  denFn_calls Tryz.func68 T68_ok (Eq.mpr (B68_eq k_p0 x_p1 w K) h)

-- 51 (*sync/atomic.Int64).Load
def T51 : Ann := (.seq .none (.seq .none .none))
theorem T51_ok : chkFn prog Tryz.f51 T51 = true := by kernel_rfl
def B51 (x_p0 : Value) (w : World) (K : Value → World → Prop) : Prop :=
  pv prog (oNil x_p0) w fun t_0 w =>
  pvv prog (Instr.fieldAt 78 t_0 2) w fun t_1 w =>
  ef prog (oCall (.func (.func 87) #[] #[]) #[t_1]) w fun t_2 w =>
  K t_2 w
theorem B51_eq (x_p0 : Value) (w : World) (K : Value → World → Prop) : denFn prog Tryz.f51 T51 [x_p0] w K = B51 x_p0 w K := by kernel_rfl
theorem c51 {x_p0 : Value} {w : World} {K : Value → World → Prop} (h : B51 x_p0 w K) : Calls prog 51 #[x_p0] w (Ret K) :=
  denFn_calls Tryz.func51 T51_ok (Eq.mpr (B51_eq x_p0 w K) h)

-- 45 slices.Sorted[int]
def T45 : Ann := (.seq .none (.seq .none (.seq .none (.seq .none .none))))
theorem T45_ok : chkFn prog Tryz.f45 T45 = true := by kernel_rfl
def B45 (seq_p0 : Value) (w : World) (K : Value → World → Prop) : Prop :=
  Calls prog 80 #[seq_p0] w (Ret fun t_0 w =>
  Calls prog 81 #[t_0] w (Ret fun t_1 w =>
  K t_0 w))
theorem B45_eq (seq_p0 : Value) (w : World) (K : Value → World → Prop) : denFn prog Tryz.f45 T45 [seq_p0] w K = B45 seq_p0 w K := by kernel_rfl
theorem c45 {seq_p0 : Value} {w : World} {K : Value → World → Prop} (h : B45 seq_p0 w K) : Calls prog 45 #[seq_p0] w (Ret K) :=
  denFn_calls Tryz.func45 T45_ok (Eq.mpr (B45_eq seq_p0 w K) h)

-- 92 holdfast/wal.zeros$1
def T92 : Ann := (.seq .none (.seq .none .none))
theorem T92_ok : chkFn prog Tryz.f92 T92 = true := by kernel_rfl
def B92 (x_p0 : Value) (w : World) (K : Value → World → Prop) : Prop :=
  pvv prog (oEq .neq 5 (.tmp 3) (.const (.int .u8 0)) x_p0 (.int .u8 0)) w fun t_0 w =>
  K t_0 w
theorem B92_eq (x_p0 : Value) (w : World) (K : Value → World → Prop) : denFn prog Tryz.f92 T92 [x_p0] w K = B92 x_p0 w K := by kernel_rfl
theorem c92 {x_p0 : Value} {w : World} {K : Value → World → Prop} (h : B92 x_p0 w K) : Calls prog 92 #[x_p0] w (Ret K) :=
  denFn_calls Tryz.func92 T92_ok (Eq.mpr (B92_eq x_p0 w K) h)


end Go.Proofs.YtcjklbhobmkalaaGreat
