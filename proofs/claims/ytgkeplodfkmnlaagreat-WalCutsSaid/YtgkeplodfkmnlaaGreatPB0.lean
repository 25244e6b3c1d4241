import Derived.Test.YtgkeplodfkmnlaaGreatPI
set_option linter.all false
set_option maxRecDepth 100000
namespace Go.Proofs.YtgkeplodfkmnlaaGreat
open Go Hold
-- 32 (*holdfast/holdfastref03.Log).Commit
def T32 : Ann := (.seq .none (.seq (.seq .none (.seq (.seq .none .none) .none)) (.seq (.seq .none (.seq (.seq .none .none) .none)) (.seq (.seq .none (.seq (.seq .none .none) .none)) (.seq (.seq .none (.block (.loop 8796090925104 [5] (.seq (.seq .none (.seq .none .none)) (.seq (.block (.seq (.draw [.op 0 .pure, .op 1 .pure, .op 2 .pure, .op 3 .pure, .op 4 .load, .op 5 .pure, .op 6 .pure, .op 7 .pure, .op 8 .pure, .op 9 .pure, .op 10 .pure, .op 12 .pure, .op 11 .load, .op 13 .eff, .op 14 .pure, .op 15 .pure]) (.seq (.seq .none .none) .none))) .none))))) (.seq (.seq .none (.block (.loop 4722366474073552191696 [6] (.seq (.seq .none (.seq .none .none)) (.seq (.block (.seq (.seq .none (.block (.loop 36892925197465682064 [7] (.seq (.seq .none (.seq .none .none)) (.seq (.block (.seq (.draw [.op 0 .pure, .op 1 .pure, .op 2 .pure, .op 3 .pure, .op 5 .pure, .op 6 .pure, .op 7 .pure, .op 8 .pure, .op 4 .load, .op 9 .load, .op 10 .pure]) (.seq (.seq .none .none) .none))) .none))))) (.seq .none (.seq (.seq .none .none) .none)))) .none))))) (.seq (.seq (.draw [.op 0 .pure, .op 1 .pure, .op 3 .pure, .op 4 .pure, .op 5 .pure, .op 7 .pure, .op 8 .pure, .op 9 .pure, .op 6 .load, .op 10 .load, .op 11 .pure, .op 2 .eff, .op 12 .pure]) (.seq (.seq .none .none) .none)) (.seq .none (.seq .none (.seq .none (.seq (.seq .none (.block (.loop 1393796574908005490020953863365335506226688 [9, 10] (.seq (.seq .none (.seq .none .none)) (.seq (.block (.seq .none (.block (.loop 1393796574898022741544156556828548968483328 [9, 11] (.seq (.seq .none (.seq .none .none)) (.meet 1393796574259126839029128938474210552971776 [9] (.block (.seq .none (.seq (.seq .none .none) .none))) .none)))))) .none))))) (.seq (.draw [.op 0 .pure, .op 1 .pure, .op 2 .pure, .op 4 .pure, .op 5 .pure, .op 6 .pure, .op 9 .pure, .op 3 .load, .op 7 .load, .op 8 .pure, .op 10 .eff]) (.seq (.seq .none (.block (.loop 23945239971534127999929410182651642095052526018629632 [12] (.seq (.seq .none (.seq .none .none)) (.seq (.block (.draw [.op 0 .pure, .op 1 .pure, .op 2 .pure, .op 4 .pure, .op 5 .pure, .op 6 .pure, .op 9 .pure, .op 11 .pure, .op 12 .pure, .op 13 .pure, .op 14 .pure, .op 3 .load, .op 7 .load, .op 8 .pure, .op 10 .pure, .op 15 .load, .op 16 .eff])) .none))))) (.seq (.draw [.op 0 .pure, .op 1 .pure, .op 2 .pure, .op 4 .pure, .op 5 .pure, .op 3 .load, .op 6 .eff, .op 7 .pure, .op 8 .pure, .op 9 .pure, .op 10 .eff]) (.seq .none (.seq .none (.seq .none .none)))))))))))))))))
theorem T32_ok : chkFn prog Tryz.f32 T32 = true := by kernel_rfl
def B32 (l_p0 pages_p1 : Value) (w : World) (K : Value → World → Prop) : Prop :=
  pvv prog (oEq .eql 24 (.tmp 13) (.const (.pointer none)) l_p0 (.pointer none)) w fun t_0 w =>
  cd t_0 (
    K (.int .i64 1) w) <|
  pv prog (oBi .len #[49] 3 #[false] #[pages_p1]) w fun t_1 w =>
  pvv prog (oEq .eql 3 (.tmp 16) (.const (.int .i64 0)) t_1 (.int .i64 0)) w fun t_2 w =>
  cd t_2 (
    K (.int .i64 0) w) <|
  pv prog (oBi .len #[49] 3 #[false] #[pages_p1]) w fun t_3 w =>
  pvv prog (binOp .gtr 3 t_3 (.int .i64 100)) w fun t_4 w =>
  cd t_4 (
    K (.int .i64 6) w) <|
  lp (fun σ w again_6 => pop σ fun i_5 σ => fin σ <|
    pv prog (oBi .len #[49] 3 #[false] #[pages_p1]) w fun t_7 w =>
    pvv prog (binOp .lss 3 i_5 t_7) w fun t_8 w =>
    cd t_8 (
      dr w fun w =>
      pvv prog (Instr.indexAt 49 pages_p1 i_5) w fun t_9 w =>
      pvv prog (Instr.fieldAt 65 t_9 0) w fun t_10 w =>
      bindS (vN (Instr.loadAt 3 t_10)) fun m_12 => ldv prog (Instr.loadAt 3 t_10) w fun t_11 w =>
      pvv prog (binOp .lss 3 t_11 (.int .i64 0)) w fun t_13 w =>
      gate (some (t_13, false)) (fun K => K pages_p1 w) w fun t_14 w =>
      gate (some (t_13, false)) (fun K => K i_5 w) w fun t_15 w =>
      gate (some (t_13, false)) (fun K => pvv prog (Instr.indexAt 49 t_14 t_15) w K) w fun t_16 w =>
      gate (some (t_13, false)) (fun K => pvv prog (Instr.fieldAt 65 t_16 0) w K) w fun t_17 w =>
      gate (some (t_13, false)) (fun K => K l_p0 w) w fun t_18 w =>
      bindS (vN (Instr.loadAt 3 t_17)) fun m_20 => gate (some (t_13, false)) (fun K => ldv prog (Instr.loadAt 3 t_17) w K) w fun t_19 w =>
      gate (some (t_13, false)) (fun K => Calls prog 70 #[t_18] w (Ret fun s_25 w => stay prog (some (t_13, false)) m_20 t_19 w <| stay prog none m_12 t_11 w <| K s_25 w)) w fun t_21 w =>
      gate (some (t_13, false)) (fun K => pvv prog (binOp .geq 3 t_19 t_21) w K) w fun t_22 w =>
      pv prog (oPick t_13 (.bool true) t_22) w fun t_23 w =>
      cd t_23 (
        K (.int .i64 2) w) <|
      pvv prog (binOp .add 3 i_5 (.int .i64 1)) w fun t_24 w =>
      again_6 [t_24] w) <|
    lp (fun σ w again_27 => pop σ fun i_26 σ => fin σ <|
      pv prog (oBi .len #[49] 3 #[false] #[pages_p1]) w fun t_28 w =>
      pvv prog (binOp .lss 3 i_26 t_28) w fun t_29 w =>
      cd t_29 (
        lp (fun σ w again_31 => pop σ fun k_30 σ => fin σ <|
          pvv prog (binOp .lss 3 k_30 i_26) w fun t_32 w =>
          cd t_32 (
            dr w fun w =>
            pvv prog (Instr.indexAt 49 pages_p1 k_30) w fun t_33 w =>
            pvv prog (Instr.fieldAt 65 t_33 0) w fun t_34 w =>
            pvv prog (Instr.indexAt 49 pages_p1 i_26) w fun t_35 w =>
            pvv prog (Instr.fieldAt 65 t_35 0) w fun t_36 w =>
            bindS (vN (Instr.loadAt 3 t_34)) fun m_38 => ldv prog (Instr.loadAt 3 t_34) w fun t_37 w =>
            bindS (vN (Instr.loadAt 3 t_36)) fun m_40 => ldv prog (Instr.loadAt 3 t_36) w fun t_39 w =>
            pvv prog (oEq .eql 3 (.tmp 58) (.tmp 63) t_37 t_39) w fun t_41 w =>
            cd t_41 (
              K (.int .i64 3) w) <|
            pvv prog (binOp .add 3 k_30 (.int .i64 1)) w fun t_42 w =>
            again_31 [t_42] w) <|
          pvv prog (Instr.indexAt 49 pages_p1 i_26) w fun t_43 w =>
          pvv prog (Instr.fieldAt 65 t_43 1) w fun t_44 w =>
          ldv prog (Instr.loadAt 60 t_44) w fun t_45 w =>
          pv prog (oBi .len #[60] 3 #[false] #[t_45]) w fun t_46 w =>
          pvv prog (oEq .neq 3 (.tmp 70) (.const (.int .i64 256)) t_46 (.int .i64 256)) w fun t_47 w =>
          cd t_47 (
            K (.int .i64 3) w) <|
          pvv prog (binOp .add 3 i_26 (.int .i64 1)) w fun t_48 w =>
          again_27 [t_48] w) [(.int .i64 0)] w) <|
      dr w fun w =>
      pv prog (oBi .len #[49] 3 #[false] #[pages_p1]) w fun t_49 w =>
      pv prog (oNil l_p0) w fun t_50 w =>
      pvv prog (Instr.fieldAt 108 t_50 1) w fun t_51 w =>
      pv prog (oNil l_p0) w fun t_52 w =>
      pvv prog (Instr.fieldAt 108 t_52 3) w fun t_53 w =>
      bindS (vN (Instr.loadAt 3 t_51)) fun m_55 => ldv prog (Instr.loadAt 3 t_51) w fun t_54 w =>
      bindS (vN (Instr.loadAt 3 t_53)) fun m_57 => ldv prog (Instr.loadAt 3 t_53) w fun t_56 w =>
      pvv prog (binOp .sub 3 t_54 t_56) w fun t_58 w =>
      Calls prog 71 #[t_49] w (Ret fun t_59 w => stay prog none m_57 t_56 w <| stay prog none m_55 t_54 w <| 
      pvv prog (binOp .gtr 3 t_59 t_58) w fun t_60 w =>
      cd t_60 (
        K (.int .i64 7) w) <|
      efv prog (Instr.makeSlice 60 (.int .i64 256) (.int .i64 256)) w fun t_61 w =>
      pv prog (oBi .len #[49] 3 #[false] #[pages_p1]) w fun t_62 w =>
      pvv prog (binOp .shr 3 t_62 (.int .u64 8)) w fun t_63 w =>
      pvv prog (convert 3 5 t_63) w fun t_64 w =>
      pv prog (oBi .len #[49] 3 #[false] #[pages_p1]) w fun t_65 w =>
      pvv prog (convert 3 5 t_65) w fun t_66 w =>
      pvv prog (Instr.indexAt 60 t_61 (.int .i64 0)) w fun t_67 w =>
      efu prog (Instr.storeAt 5 t_67 t_64) w fun u_68 w =>
      pvv prog (Instr.indexAt 60 t_61 (.int .i64 1)) w fun t_69 w =>
      efu prog (Instr.storeAt 5 t_69 t_66) w fun u_70 w =>
      lp (fun σ w again_73 => pop σ fun l2_71 σ => pop σ fun n_72 σ => fin σ <|
        Calls prog 70 #[l_p0] w (Ret fun t_74 w =>
        pvv prog (binOp .lss 3 n_72 t_74) w fun t_75 w =>
        cd t_75 (
          lp (fun σ w again_78 => pop σ fun l2_76 σ => pop σ fun i_77 σ => fin σ <|
            pv prog (oBi .len #[49] 3 #[false] #[pages_p1]) w fun t_79 w =>
            pvv prog (binOp .lss 3 i_77 t_79) w fun t_80 w =>
            cd t_80 (
              jn (fun σ w => pop σ fun l2_81 σ => fin σ <|
                pvv prog (binOp .add 3 i_77 (.int .i64 1)) w fun t_82 w =>
                again_78 [l2_81, t_82] w) fun k_83 =>
              pvv prog (Instr.indexAt 49 pages_p1 i_77) w fun t_84 w =>
              pvv prog (Instr.fieldAt 65 t_84 0) w fun t_85 w =>
              ldv prog (Instr.loadAt 3 t_85) w fun t_86 w =>
              pvv prog (oEq .eql 3 (.tmp 113) (.tmp 114) t_86 n_72) w fun t_87 w =>
              cd t_87 (
                pv prog (oBi .len #[49] 3 #[false] #[l2_76]) w fun t_88 w =>
                pvv prog (binOp .mul 3 (.int .i64 2) t_88) w fun t_89 w =>
                pvv prog (binOp .add 3 (.int .i64 2) t_89) w fun t_90 w =>
                pv prog (oBi .len #[49] 3 #[false] #[l2_76]) w fun t_91 w =>
                pvv prog (binOp .mul 3 (.int .i64 2) t_91) w fun t_92 w =>
                pvv prog (binOp .add 3 (.int .i64 3) t_92) w fun t_93 w =>
                pvv prog (binOp .shr 3 n_72 (.int .u64 8)) w fun t_94 w =>
                pvv prog (convert 3 5 t_94) w fun t_95 w =>
                pvv prog (convert 3 5 n_72) w fun t_96 w =>
                pvv prog (Instr.indexAt 60 t_61 t_90) w fun t_97 w =>
                efu prog (Instr.storeAt 5 t_97 t_95) w fun u_98 w =>
                pvv prog (Instr.indexAt 60 t_61 t_93) w fun t_99 w =>
                efu prog (Instr.storeAt 5 t_99 t_96) w fun u_100 w =>
                pvv prog (Instr.indexAt 49 pages_p1 i_77) w fun t_101 w =>
                ldv prog (Instr.loadAt 65 t_101) w fun t_102 w =>
                efv prog (Instr.buildSlice 49 1 #[(0, t_102)]) w fun t_103 w =>
                ef prog (oBi .append #[49, 49] 49 #[false, false] #[l2_76, t_103]) w fun t_104 w =>
                k_83 [t_104] w) <|
              k_83 [l2_76] w) <|
            pvv prog (binOp .add 3 n_72 (.int .i64 1)) w fun t_105 w =>
            again_73 [l2_76, t_105] w) [l2_71, (.int .i64 0)] w) <|
        dr w fun w =>
        pv prog (oNil l_p0) w fun t_106 w =>
        pvv prog (Instr.fieldAt 108 t_106 0) w fun t_107 w =>
        pv prog (oNil l_p0) w fun t_108 w =>
        pvv prog (Instr.fieldAt 108 t_108 3) w fun t_109 w =>
        bindS (vN (Instr.loadAt 55 t_107)) fun m_111 => ldv prog (Instr.loadAt 55 t_107) w fun t_110 w =>
        bindS (vN (Instr.loadAt 3 t_109)) fun m_113 => ldv prog (Instr.loadAt 3 t_109) w fun t_112 w =>
        pvv prog (binOp .add 3 t_112 (.int .i64 1)) w fun t_114 w =>
        Calls prog 67 #[t_110, t_114, t_61] w (Ret fun t_115 w => stay prog none m_113 t_112 w <| 
        lp (fun σ w again_117 => pop σ fun i_116 σ => fin σ <|
          pv prog (oBi .len #[49] 3 #[false] #[l2_71]) w fun t_118 w =>
          pvv prog (binOp .lss 3 i_116 t_118) w fun t_119 w =>
          cd t_119 (
            dr w fun w =>
            pv prog (oNil l_p0) w fun t_120 w =>
            pvv prog (Instr.fieldAt 108 t_120 0) w fun t_121 w =>
            pv prog (oNil l_p0) w fun t_122 w =>
            pvv prog (Instr.fieldAt 108 t_122 3) w fun t_123 w =>
            pvv prog (Instr.indexAt 49 l2_71 i_116) w fun t_124 w =>
            pvv prog (Instr.fieldAt 65 t_124 1) w fun t_125 w =>
            bindS (vN (Instr.loadAt 55 t_121)) fun m_127 => ldv prog (Instr.loadAt 55 t_121) w fun t_126 w =>
            bindS (vN (Instr.loadAt 3 t_123)) fun m_129 => ldv prog (Instr.loadAt 3 t_123) w fun t_128 w =>
            pvv prog (binOp .add 3 t_128 (.int .i64 2)) w fun t_130 w =>
            pvv prog (binOp .add 3 t_130 i_116) w fun t_131 w =>
            bindS (vN (Instr.loadAt 60 t_125)) fun m_133 => ldv prog (Instr.loadAt 60 t_125) w fun t_132 w =>
            Calls prog 67 #[t_126, t_131, t_132] w (Ret fun t_134 w => stay prog none m_129 t_128 w <| 
            pvv prog (binOp .add 3 i_116 (.int .i64 1)) w fun t_135 w =>
            again_117 [t_135] w)) <|
          dr w fun w =>
          pv prog (oNil l_p0) w fun t_137 w =>
          pvv prog (Instr.fieldAt 108 t_137 3) w fun t_138 w =>
          pv prog (oBi .len #[49] 3 #[false] #[pages_p1]) w fun t_139 w =>
          bindS (vN (Instr.loadAt 3 t_138)) fun m_141 => ldv prog (Instr.loadAt 3 t_138) w fun t_140 w =>
          Calls prog 71 #[t_139] w (Ret fun t_142 w => stay prog none m_141 t_140 w <| 
          pvv prog (binOp .add 3 t_140 t_142) w fun t_143 w =>
          pv prog (oNil l_p0) w fun t_144 w =>
          pvv prog (Instr.fieldAt 108 t_144 3) w fun t_145 w =>
          efu prog (Instr.storeAt 3 t_145 t_143) w fun u_146 w =>
          pv prog (oNil l_p0) w fun t_147 w =>
          pvv prog (Instr.fieldAt 108 t_147 2) w fun t_148 w =>
          ldv prog (Instr.loadAt 3 t_148) w fun t_149 w =>
          pvv prog (binOp .add 3 t_149 (.int .i64 1)) w fun t_150 w =>
          pv prog (oNil l_p0) w fun t_151 w =>
          pvv prog (Instr.fieldAt 108 t_151 2) w fun t_152 w =>
          efu prog (Instr.storeAt 3 t_152 t_150) w fun u_153 w =>
          Calls prog 69 #[l_p0] w (Ret fun t_154 w =>
          K (.int .i64 0) w))) [(.int .i64 0)] w))) [(.slice none 0 0), (.int .i64 0)] w)) [(.int .i64 0)] w) [(.int .i64 0)] w
theorem B32_eq (l_p0 pages_p1 : Value) (w : World) (K : Value → World → Prop) : denFn prog Tryz.f32 T32 [l_p0, pages_p1] w K = B32 l_p0 pages_p1 w K := by kernel_rfl
theorem c32 {l_p0 pages_p1 : Value} {w : World} {K : Value → World → Prop} (h : B32 l_p0 pages_p1 w K) : Calls prog 32 #[l_p0, pages_p1] w (Ret K) :=
  denFn_calls Tryz.func32 T32_ok (Eq.mpr (B32_eq l_p0 pages_p1 w K) h)

-- 5 holdfast/holdfastlaw03.WalCuts
def T5 : Ann := (.seq .none (.seq .none (.seq .none (.seq (.seq .none (.seq (.seq .none .none) .none)) (.seq (.seq .none (.block (.loop 295147342229399406656 [11] (.seq (.seq .none (.seq .none .none)) (.seq (.block (.seq .none (.seq (.seq .none .none) .none))) .none))))) (.seq .none (.seq .none (.seq .none (.seq (.seq .none (.seq (.seq .none .none) .none)) (.seq .none (.seq .none (.seq .none (.seq .none (.seq .none (.seq (.seq .none (.seq (.seq .none .none) .none)) (.seq (.seq .none (.seq (.seq .none .none) .none)) (.seq .none .none)))))))))))))))))
theorem T5_ok : chkFn prog Tryz.f5 T5 = true := by kernel_rfl
def B5 (size_p0 l_p1 k_p2 : Value) (w : World) (K : Value → World → Prop) : Prop :=
  pvv prog (convert 5 3 size_p0) w fun t_0 w =>
  pvv prog (binOp .rem 3 t_0 (.int .i64 20)) w fun t_1 w =>
  pvv prog (binOp .add 3 t_1 (.int .i64 2)) w fun t_2 w =>
  pvv prog (binOp .add 3 t_2 (.int .i64 10)) w fun t_3 w =>
  Calls prog 7 #[t_3, t_2] w (Ret fun t_4 w =>
  pvv prog (Instr.extract t_4 0) w fun t_5 w =>
  pvv prog (Instr.extract t_4 1) w fun t_6 w =>
  pvv prog (Instr.extract t_4 2) w fun t_7 w =>
  Calls prog 8 #[] w (Ret fun t_8 w =>
  pvv prog (Op.unary .not t_8) w fun t_9 w =>
  gate (some (t_9, false)) (fun K => K t_7 w) w fun t_10 w =>
  gate (some (t_9, false)) (fun K => pvv prog (Op.unary .not t_10) w K) w fun t_11 w =>
  pv prog (oPick t_9 (.bool true) t_11) w fun t_12 w =>
  gate (some (t_12, false)) (fun K => K l_p1 w) w fun t_13 w =>
  gate (some (t_12, false)) (fun K => pv prog (oBi .len #[22] 3 #[false] #[t_13]) w K) w fun t_14 w =>
  gate (some (t_12, false)) (fun K => pvv prog (oEq .eql 3 (.tmp 42) (.const (.int .i64 0)) t_14 (.int .i64 0)) w K) w fun t_15 w =>
  pv prog (oPick t_12 (.bool true) t_15) w fun t_16 w =>
  cd t_16 (
    Calls prog 8 #[] w (Ret fun t_17 w =>
    gate (some (t_17, true)) (fun K => K t_7 w) w fun t_18 w =>
    pv prog (oPick t_17 t_18 (.bool false)) w fun t_19 w =>
    K t_19 w)) <|
  lp (fun σ w again_21 => pop σ fun i_20 σ => fin σ <|
    pv prog (oBi .len #[22] 3 #[false] #[l_p1]) w fun t_22 w =>
    pvv prog (binOp .sub 3 t_22 (.int .i64 1)) w fun t_23 w =>
    pvv prog (binOp .lss 3 i_20 t_23) w fun t_24 w =>
    gate (some (t_24, true)) (fun K => K i_20 w) w fun t_25 w =>
    gate (some (t_24, true)) (fun K => pvv prog (binOp .lss 3 t_25 (.int .i64 20)) w K) w fun t_26 w =>
    pv prog (oPick t_24 t_26 (.bool false)) w fun t_27 w =>
    cd t_27 (
      pvv prog (Instr.indexAt 22 l_p1 i_20) w fun t_28 w =>
      ldv prog (Instr.loadAt 31 t_28) w fun t_29 w =>
      Calls prog 9 #[t_5, t_6, t_29] w (Ret fun t_30 w =>
      pvv prog (Op.unary .not t_30) w fun t_31 w =>
      cd t_31 (
        K (.bool false) w) <|
      pvv prog (binOp .add 3 i_20 (.int .i64 1)) w fun t_32 w =>
      again_21 [t_32] w)) <|
    Calls prog 10 #[t_5] w (Ret fun t_33 w =>
    Calls prog 17 #[t_5] w (Ret fun t_34 w =>
    Calls prog 20 #[t_34] w (Ret fun t_35 w =>
    pv prog (oBi .len #[22] 3 #[false] #[l_p1]) w fun t_36 w =>
    pvv prog (binOp .sub 3 t_36 (.int .i64 1)) w fun t_37 w =>
    pvv prog (Instr.indexAt 22 l_p1 t_37) w fun t_38 w =>
    ldv prog (Instr.loadAt 31 t_38) w fun t_39 w =>
    efv prog (Instr.alloc 31 true (.tuple #[])) w fun last_40 w =>
    efu prog (Instr.storeAt 31 last_40 t_39) w fun u_41 w =>
    ldv prog (Instr.loadAt 31 last_40) w fun t_42 w =>
    Calls prog 9 #[t_5, t_6, t_42] w (Ret fun t_43 w =>
    pvv prog (Op.unary .not t_43) w fun t_44 w =>
    cd t_44 (
      K (.bool false) w) <|
    Calls prog 10 #[t_5] w (Ret fun t_45 w =>
    Calls prog 17 #[t_5] w (Ret fun t_46 w =>
    pvv prog (convert 45 3 k_p2) w fun t_47 w =>
    Calls prog 20 #[t_46] w (Ret fun t_48 w =>
    pvv prog (binOp .sub 3 t_48 t_35) w fun t_49 w =>
    pvv prog (binOp .add 3 t_49 (.int .i64 1)) w fun t_50 w =>
    pvv prog (binOp .rem 3 t_47 t_50) w fun t_51 w =>
    pvv prog (binOp .add 3 t_35 t_51) w fun t_52 w =>
    Calls prog 21 #[t_46, t_52] w (Ret fun t_53 w =>
    pvv prog (Instr.extract t_53 0) w fun t_54 w =>
    pvv prog (Instr.extract t_53 1) w fun t_55 w =>
    Calls prog 16 #[t_54, t_2] w (Ret fun t_56 w =>
    pvv prog (Instr.extract t_56 0) w fun t_57 w =>
    pvv prog (Instr.extract t_56 1) w fun t_58 w =>
    pvv prog (oEq .neq 34 (.tmp 110) (.const (.int .i64 0)) t_55 (.int .i64 0)) w fun t_59 w =>
    gate (some (t_59, false)) (fun K => K t_58 w) w fun t_60 w =>
    gate (some (t_59, false)) (fun K => pvv prog (oEq .neq 34 (.tmp 113) (.const (.int .i64 0)) t_60 (.int .i64 0)) w K) w fun t_61 w =>
    pv prog (oPick t_59 (.bool true) t_61) w fun t_62 w =>
    cd t_62 (
      K (.bool false) w) <|
    Calls prog 20 #[t_46] w (Ret fun t_63 w =>
    pvv prog (oEq .eql 3 (.tmp 116) (.tmp 118) t_52 t_63) w fun t_64 w =>
    cd t_64 (
      Calls prog 10 #[t_57] w (Ret fun t_65 w =>
      Calls prog 15 #[t_65, t_45] w (Ret fun t_66 w =>
      K t_66 w))) <|
    Calls prog 10 #[t_57] w (Ret fun t_67 w =>
    Calls prog 15 #[t_67, t_33] w (Ret fun t_68 w =>
    K t_68 w))))))))))))) [(.int .i64 0)] w))
theorem B5_eq (size_p0 l_p1 k_p2 : Value) (w : World) (K : Value → World → Prop) : denFn prog Tryz.f5 T5 [size_p0, l_p1, k_p2] w K = B5 size_p0 l_p1 k_p2 w K := by kernel_rfl
theorem c5 {size_p0 l_p1 k_p2 : Value} {w : World} {K : Value → World → Prop} (h : B5 size_p0 l_p1 k_p2 w K) : Calls prog 5 #[size_p0, l_p1, k_p2] w (Ret K) :=
  denFn_calls Tryz.func5 T5_ok (Eq.mpr (B5_eq size_p0 l_p1 k_p2 w K) h)

-- 46 (*holdfast/wal.Log).group
def T46 : Ann := (.seq .none (.seq .none (.seq .none (.seq (.seq .none (.seq (.seq .none .none) .none)) (.seq .none (.seq (.seq .none (.block (.loop 302231454340707340257040 [8, 49] (.seq .none (.seq (.seq .none .none) (.seq (.block (.seq .none (.seq .none (.seq (.seq .none (.seq (.seq .none .none) .none)) (.seq .none .none))))) .none)))))) (.seq .none .none)))))))
theorem T46_ok : chkFn prog Tryz.f46 T46 = true := by kernel_rfl
def B46 (l_p0 n_p1 : Value) (w : World) (K : Value → World → Prop) : Prop :=
  pv prog (oNil l_p0) w fun t_0 w =>
  pvv prog (Instr.fieldAt 70 t_0 0) w fun t_1 w =>
  pvv prog (Instr.fieldAt 67 t_1 0) w fun t_2 w =>
  ldv prog (Instr.loadAt 42 t_2) w fun t_3 w =>
  Calls prog 34 #[t_3, n_p1] w (Ret fun t_4 w =>
  pvv prog (Instr.extract t_4 0) w fun t_5 w =>
  pvv prog (Instr.extract t_4 1) w fun t_6 w =>
  Calls prog 45 #[t_5] w (Ret fun t_7 w =>
  pvv prog (binOp .lss 3 t_7 (.int .i64 1)) w fun t_8 w =>
  gate (some (t_8, false)) (fun K => K t_7 w) w fun t_9 w =>
  gate (some (t_8, false)) (fun K => pvv prog (binOp .gtr 3 t_9 (.int .i64 100)) w K) w fun t_10 w =>
  pv prog (oPick t_8 (.bool true) t_10) w fun t_11 w =>
  gate (some (t_11, false)) (fun K => K n_p1 w) w fun t_12 w =>
  gate (some (t_11, false)) (fun K => K t_7 w) w fun t_13 w =>
  gate (some (t_11, false)) (fun K => pvv prog (binOp .add 3 t_12 t_13) w K) w fun t_14 w =>
  gate (some (t_11, false)) (fun K => K l_p0 w) w fun t_15 w =>
  gate (some (t_11, false)) (fun K => pv prog (oNil t_15) w K) w fun t_16 w =>
  gate (some (t_11, false)) (fun K => pvv prog (Instr.fieldAt 70 t_16 3) w K) w fun t_17 w =>
  gate (some (t_11, false)) (fun K => ldv prog (Instr.loadAt 3 t_17) w K) w fun t_18 w =>
  gate (some (t_11, false)) (fun K => pvv prog (binOp .gtr 3 t_14 t_18) w K) w fun t_19 w =>
  pv prog (oPick t_11 (.bool true) t_19) w fun t_20 w =>
  gate (some (t_20, false)) (fun K => K t_5 w) w fun t_21 w =>
  gate (some (t_20, false)) (fun K => K t_7 w) w fun t_22 w =>
  gate (some (t_20, false)) (fun K => pvv prog (binOp .mul 3 (.int .i64 2) t_22) w K) w fun t_23 w =>
  gate (some (t_20, false)) (fun K => pvv prog (binOp .add 3 (.int .i64 2) t_23) w K) w fun t_24 w =>
  gate (some (t_20, false)) (fun K => pvv prog (Instr.sliceAt 60 t_21 (some t_24) none none) w K) w fun t_25 w =>
  gate (some (t_20, false)) (fun K => Calls prog 43 #[t_25] w (Ret K)) w fun t_26 w =>
  gate (some (t_20, false)) (fun K => pvv prog (Op.unary .not t_26) w K) w fun t_27 w =>
  pv prog (oPick t_20 (.bool true) t_27) w fun t_28 w =>
  cd t_28 (
    K (.int .i64 0) w) <|
  lp (fun σ w again_31 => pop σ fun last_29 σ => pop σ fun t_30 σ => fin σ <|
    pvv prog (binOp .lss 3 t_30 t_7) w fun t_32 w =>
    cd t_32 (
      pvv prog (binOp .mul 3 (.int .i64 2) t_30) w fun t_33 w =>
      pvv prog (binOp .add 3 (.int .i64 2) t_33) w fun t_34 w =>
      pvv prog (Instr.sliceAt 60 t_5 (some t_34) none none) w fun t_35 w =>
      Calls prog 45 #[t_35] w (Ret fun t_36 w =>
      pvv prog (binOp .leq 3 t_36 last_29) w fun t_37 w =>
      gate (some (t_37, false)) (fun K => K t_36 w) w fun t_38 w =>
      gate (some (t_37, false)) (fun K => K l_p0 w) w fun t_39 w =>
      gate (some (t_37, false)) (fun K => Calls prog 33 #[t_39] w (Ret K)) w fun t_40 w =>
      gate (some (t_37, false)) (fun K => pvv prog (binOp .geq 3 t_38 t_40) w K) w fun t_41 w =>
      pv prog (oPick t_37 (.bool true) t_41) w fun t_42 w =>
      cd t_42 (
        K (.int .i64 0) w) <|
      pv prog (oNil l_p0) w fun t_43 w =>
      pvv prog (Instr.fieldAt 70 t_43 4) w fun t_44 w =>
      ldv prog (Instr.loadAt 68 t_44) w fun t_45 w =>
      pvv prog (binOp .add 3 n_p1 (.int .i64 1)) w fun t_46 w =>
      pvv prog (binOp .add 3 t_46 t_30) w fun t_47 w =>
      efu prog (Instr.mapUpdate 68 t_45 t_36 t_47) w fun u_48 w =>
      pvv prog (binOp .add 3 t_30 (.int .i64 1)) w fun t_49 w =>
      again_31 [t_36, t_49] w)) <|
    K t_7 w) [(.int .i64 (-1)), (.int .i64 0)] w))
theorem B46_eq (l_p0 n_p1 : Value) (w : World) (K : Value → World → Prop) : denFn prog Tryz.f46 T46 [l_p0, n_p1] w K = B46 l_p0 n_p1 w K := by kernel_rfl
theorem c46 {l_p0 n_p1 : Value} {w : World} {K : Value → World → Prop} (h : B46 l_p0 n_p1 w K) : Calls prog 46 #[l_p0, n_p1] w (Ret K) :=
  denFn_calls Tryz.func46 T46_ok (Eq.mpr (B46_eq l_p0 n_p1 w K) h)

-- 35 (*holdfast/block.Disk).Write
def T35 : Ann := (.seq .none (.seq (.block (.seq .none (.seq (.seq .none .none) (.seq .none (.seq (.seq .none .none) (.seq .none (.seq (.seq .none .none) .none))))))) (.seq (.draw [.op 0 .pure, .op 1 .pure, .op 2 .pure, .op 3 .pure, .op 5 .pure, .op 6 .pure, .op 7 .pure, .op 8 .pure, .op 10 .pure, .op 4 .load, .op 9 .load, .op 11 .pure, .op 12 .load, .op 13 .pure, .op 14 .eff, .op 15 .eff, .op 16 .pure, .op 17 .pure, .op 18 .eff]) (.seq .none (.seq (.draw [.op 0 .pure, .op 1 .pure, .op 2 .pure, .op 4 .pure, .op 5 .pure, .op 3 .load, .op 6 .eff, .op 7 .pure, .op 8 .eff]) (.seq .none .none))))))
theorem T35_ok : chkFn prog Tryz.f35 T35 = true := by kernel_rfl
def B35 (d_p0 n_p1 b_p2 : Value) (w : World) (K : Value → World → Prop) : Prop :=
  pvv prog (oEq .eql 42 (.tmp 8) (.const (.pointer none)) d_p0 (.pointer none)) w fun t_0 w =>
  cd t_0 (
    K (.int .i64 1) w) <|
  pvv prog (binOp .lss 3 n_p1 (.int .i64 0)) w fun t_1 w =>
  gate (some (t_1, false)) (fun K => K n_p1 w) w fun t_2 w =>
  gate (some (t_1, false)) (fun K => K d_p0 w) w fun t_3 w =>
  gate (some (t_1, false)) (fun K => pv prog (oNil t_3) w K) w fun t_4 w =>
  gate (some (t_1, false)) (fun K => pvv prog (Instr.fieldAt 88 t_4 0) w K) w fun t_5 w =>
  gate (some (t_1, false)) (fun K => ldv prog (Instr.loadAt 32 t_5) w K) w fun t_6 w =>
  gate (some (t_1, false)) (fun K => pv prog (oBi .len #[32] 3 #[false] #[t_6]) w K) w fun t_7 w =>
  gate (some (t_1, false)) (fun K => pvv prog (binOp .geq 3 t_2 t_7) w K) w fun t_8 w =>
  pv prog (oPick t_1 (.bool true) t_8) w fun t_9 w =>
  cd t_9 (
    K (.int .i64 2) w) <|
  pv prog (oBi .len #[60] 3 #[false] #[b_p2]) w fun t_10 w =>
  pvv prog (oEq .neq 3 (.tmp 24) (.const (.int .i64 256)) t_10 (.int .i64 256)) w fun t_11 w =>
  cd t_11 (
    K (.int .i64 3) w) <|
  dr w fun w =>
  pv prog (oNil d_p0) w fun t_12 w =>
  pvv prog (Instr.fieldAt 88 t_12 1) w fun t_13 w =>
  pv prog (oNil d_p0) w fun t_14 w =>
  pvv prog (Instr.fieldAt 88 t_14 0) w fun t_15 w =>
  bindS (vN (Instr.loadAt 81 t_13)) fun m_17 => ldv prog (Instr.loadAt 81 t_13) w fun t_16 w =>
  bindS (vN (Instr.loadAt 32 t_15)) fun m_19 => ldv prog (Instr.loadAt 32 t_15) w fun t_18 w =>
  pvv prog (Instr.indexAt 32 t_18 n_p1) w fun t_20 w =>
  bindS (vN (Instr.loadAt 60 t_20)) fun m_22 => ldv prog (Instr.loadAt 60 t_20) w fun t_21 w =>
  pvv prog (Instr.build 95 #[(0, n_p1), (1, t_21)]) w fun t_23 w =>
  efv prog (Instr.buildSlice 81 1 #[(0, t_23)]) w fun t_24 w => stay prog none m_22 t_21 w <| stay prog none m_19 t_18 w <| stay prog none m_17 t_16 w <| 
  ef prog (oBi .append #[81, 81] 81 #[false, false] #[t_16, t_24]) w fun t_25 w => stay prog none m_22 t_21 w <| stay prog none m_19 t_18 w <| 
  pv prog (oNil d_p0) w fun t_26 w =>
  pvv prog (Instr.fieldAt 88 t_26 1) w fun t_27 w =>
  efu prog (Instr.storeAt 81 t_27 t_25) w fun u_28 w =>
  pv prog (oNil d_p0) w fun t_29 w =>
  pvv prog (Instr.fieldAt 88 t_29 2) w fun t_30 w =>
  Calls prog 72 #[t_30, (.int .i64 1)] w (Ret fun t_31 w =>
  dr w fun w =>
  pv prog (oNil d_p0) w fun t_32 w =>
  pvv prog (Instr.fieldAt 88 t_32 0) w fun t_33 w =>
  bindS (vN (Instr.loadAt 32 t_33)) fun m_35 => ldv prog (Instr.loadAt 32 t_33) w fun t_34 w =>
  Calls prog 51 #[b_p2] w (Ret fun t_36 w => stay prog none m_35 t_34 w <| 
  pvv prog (Instr.indexAt 32 t_34 n_p1) w fun t_37 w =>
  efu prog (Instr.storeAt 60 t_37 t_36) w fun u_38 w =>
  K (.int .i64 0) w))
theorem B35_eq (d_p0 n_p1 b_p2 : Value) (w : World) (K : Value → World → Prop) : denFn prog Tryz.f35 T35 [d_p0, n_p1, b_p2] w K = B35 d_p0 n_p1 b_p2 w K := by kernel_rfl
theorem c35 {d_p0 n_p1 b_p2 : Value} {w : World} {K : Value → World → Prop} (h : B35 d_p0 n_p1 b_p2 w K) : Calls prog 35 #[d_p0, n_p1, b_p2] w (Ret K) :=
  denFn_calls Tryz.func35 T35_ok (Eq.mpr (B35_eq d_p0 n_p1 b_p2 w K) h)

-- 100 slices.breakPatternsOrdered[int]
def T100 : Ann := (.seq .none (.seq .none (.seq (.seq .none (.seq .none (.seq .none (.block (.loop 36893488147351995904 [9] (.seq (.seq .none (.seq .none .none)) (.seq (.block (.seq .none (.meet 138538465100800 [10] (.seq .none (.seq .none .none)) (.draw [.op 0 .pure, .op 1 .pure, .op 2 .pure, .op 3 .pure, .op 4 .pure, .op 5 .pure, .op 6 .pure, .op 7 .pure, .op 8 .pure, .op 9 .pure, .op 10 .pure, .op 12 .pure, .op 13 .pure, .op 14 .pure, .op 11 .load, .op 15 .load, .op 16 .pure, .op 17 .eff, .op 18 .pure, .op 19 .eff])))) .none))))))) .none)))
theorem T100_ok : chkFn prog Tryz.f100 T100 = true := by kernel_rfl
def B100 (data_p0 a_p1 b_p2 : Value) (w : World) (K : Value → World → Prop) : Prop :=
  pvv prog (binOp .sub 3 b_p2 a_p1) w fun t_0 w =>
  pvv prog (binOp .geq 3 t_0 (.int .i64 8)) w fun t_1 w =>
  cd t_1 (
    pvv prog (convert 3 152 t_0) w fun t_2 w =>
    efv prog (Instr.alloc 152 true (.tuple #[])) w fun random_3 w =>
    efu prog (Instr.storeAt 152 random_3 t_2) w fun u_4 w =>
    Calls prog 110 #[t_0] w (Ret fun t_5 w =>
    pvv prog (binOp .quo 3 t_0 (.int .i64 4)) w fun t_6 w =>
    pvv prog (binOp .mul 3 t_6 (.int .i64 2)) w fun t_7 w =>
    pvv prog (binOp .add 3 a_p1 t_7) w fun t_8 w =>
    pvv prog (binOp .sub 3 t_8 (.int .i64 1)) w fun t_9 w =>
    lp (fun σ w again_11 => pop σ fun idx_10 σ => fin σ <|
      pvv prog (binOp .quo 3 t_0 (.int .i64 4)) w fun t_12 w =>
      pvv prog (binOp .mul 3 t_12 (.int .i64 2)) w fun t_13 w =>
      pvv prog (binOp .add 3 a_p1 t_13) w fun t_14 w =>
      pvv prog (binOp .add 3 t_14 (.int .i64 1)) w fun t_15 w =>
      pvv prog (binOp .leq 3 idx_10 t_15) w fun t_16 w =>
      cd t_16 (
        Calls prog 111 #[random_3] w (Ret fun t_17 w =>
        pvv prog (binOp .sub 111 t_5 (.int .u64 1)) w fun t_18 w =>
        pvv prog (binOp .and 111 t_17 t_18) w fun t_19 w =>
        pvv prog (convert 111 3 t_19) w fun t_20 w =>
        jn (fun σ w => pop σ fun other_21 σ => fin σ <|
          dr w fun w =>
          pvv prog (binOp .add 3 a_p1 other_21) w fun t_22 w =>
          pvv prog (binOp .add 3 a_p1 other_21) w fun t_23 w =>
          pvv prog (Instr.indexAt 29 data_p0 t_23) w fun t_24 w =>
          pvv prog (Instr.indexAt 29 data_p0 idx_10) w fun t_25 w =>
          bindS (vN (Instr.loadAt 3 t_24)) fun m_27 => ldv prog (Instr.loadAt 3 t_24) w fun t_26 w =>
          bindS (vN (Instr.loadAt 3 t_25)) fun m_29 => ldv prog (Instr.loadAt 3 t_25) w fun t_28 w =>
          pvv prog (Instr.indexAt 29 data_p0 idx_10) w fun t_30 w =>
          efu prog (Instr.storeAt 3 t_30 t_26) w fun u_31 w =>
          pvv prog (Instr.indexAt 29 data_p0 t_22) w fun t_32 w =>
          efu prog (Instr.storeAt 3 t_32 t_28) w fun u_33 w =>
          pvv prog (binOp .add 3 idx_10 (.int .i64 1)) w fun t_34 w =>
          again_11 [t_34] w) fun k_37 =>
        pvv prog (binOp .geq 3 t_20 t_0) w fun t_38 w =>
        cd t_38 (
          pvv prog (binOp .sub 3 t_20 t_0) w fun t_39 w =>
          k_37 [t_39] w) <|
        k_37 [t_20] w)) <|
      K (.tuple #[]) w) [t_9] w)) <|
  K (.tuple #[]) w
theorem B100_eq (data_p0 a_p1 b_p2 : Value) (w : World) (K : Value → World → Prop) : denFn prog Tryz.f100 T100 [data_p0, a_p1, b_p2] w K = B100 data_p0 a_p1 b_p2 w K := by kernel_rfl
theorem c100 {data_p0 a_p1 b_p2 : Value} {w : World} {K : Value → World → Prop} (h : B100 data_p0 a_p1 b_p2 w K) : Calls prog 100 #[data_p0, a_p1, b_p2] w (Ret K) :=
  denFn_calls Tryz.func100 T100_ok (Eq.mpr (B100_eq data_p0 a_p1 b_p2 w K) h)

-- 69 (*holdfast/holdfastref03.Log).head
def T69 : Ann := (.seq .none (.seq .none (.seq (.seq .none (.block (.loop 67108360 [3] (.seq (.seq .none (.seq .none .none)) (.seq (.block .none) .none))))) (.seq (.draw [.op 0 .pure, .op 1 .pure, .op 2 .pure, .op 3 .pure, .op 4 .pure, .op 8 .pure, .op 9 .pure, .op 10 .pure, .op 5 .load, .op 6 .pure, .op 7 .pure, .op 11 .load, .op 12 .pure, .op 13 .pure, .op 14 .eff, .op 15 .pure, .op 16 .eff]) .none))))
theorem T69_ok : chkFn prog Tryz.f69 T69 = true := by kernel_rfl
def B69 (l_p0 : Value) (w : World) (K : Value → World → Prop) : Prop :=
  efv prog (Instr.makeSlice 60 (.int .i64 256) (.int .i64 256)) w fun t_0 w =>
  pvv prog (Instr.indexAt 60 t_0 (.int .i64 0)) w fun t_1 w =>
  efu prog (Instr.storeAt 5 t_1 (.int .u8 72)) w fun u_2 w =>
  pvv prog (Instr.indexAt 60 t_0 (.int .i64 1)) w fun t_3 w =>
  efu prog (Instr.storeAt 5 t_3 (.int .u8 70)) w fun u_4 w =>
  lp (fun σ w again_6 => pop σ fun i_5 σ => fin σ <|
    pvv prog (binOp .lss 3 i_5 (.int .i64 8)) w fun t_7 w =>
    cd t_7 (
      pvv prog (binOp .add 3 (.int .i64 2) i_5) w fun t_8 w =>
      pv prog (oNil l_p0) w fun t_9 w =>
      pvv prog (Instr.fieldAt 108 t_9 2) w fun t_10 w =>
      ldv prog (Instr.loadAt 3 t_10) w fun t_11 w =>
      pvv prog (binOp .mul 3 (.int .i64 8) i_5) w fun t_12 w =>
      pvv prog (binOp .sub 3 (.int .i64 56) t_12) w fun t_13 w =>
      pvv prog (binOp .shr 3 t_11 t_13) w fun t_14 w =>
      pvv prog (convert 3 5 t_14) w fun t_15 w =>
      pvv prog (Instr.indexAt 60 t_0 t_8) w fun t_16 w =>
      efu prog (Instr.storeAt 5 t_16 t_15) w fun u_17 w =>
      pvv prog (binOp .add 3 i_5 (.int .i64 1)) w fun t_18 w =>
      again_6 [t_18] w) <|
    dr w fun w =>
    pv prog (oNil l_p0) w fun t_19 w =>
    pvv prog (Instr.fieldAt 108 t_19 3) w fun t_20 w =>
    pv prog (oNil l_p0) w fun t_21 w =>
    pvv prog (Instr.fieldAt 108 t_21 3) w fun t_22 w =>
    bindS (vN (Instr.loadAt 3 t_20)) fun m_24 => ldv prog (Instr.loadAt 3 t_20) w fun t_23 w =>
    pvv prog (binOp .shr 3 t_23 (.int .u64 8)) w fun t_25 w =>
    pvv prog (convert 3 5 t_25) w fun t_26 w =>
    bindS (vN (Instr.loadAt 3 t_22)) fun m_28 => ldv prog (Instr.loadAt 3 t_22) w fun t_27 w =>
    pvv prog (convert 3 5 t_27) w fun t_29 w =>
    pvv prog (Instr.indexAt 60 t_0 (.int .i64 10)) w fun t_30 w =>
    efu prog (Instr.storeAt 5 t_30 t_26) w fun u_31 w =>
    pvv prog (Instr.indexAt 60 t_0 (.int .i64 11)) w fun t_32 w =>
    efu prog (Instr.storeAt 5 t_32 t_29) w fun u_33 w =>
    pv prog (oNil l_p0) w fun t_34 w =>
    pvv prog (Instr.fieldAt 108 t_34 0) w fun t_35 w =>
    ldv prog (Instr.loadAt 55 t_35) w fun t_36 w =>
    Calls prog 67 #[t_36, (.int .i64 0), t_0] w (Ret fun t_37 w =>
    K (.tuple #[]) w)) [(.int .i64 0)] w
theorem B69_eq (l_p0 : Value) (w : World) (K : Value → World → Prop) : denFn prog Tryz.f69 T69 [l_p0] w K = B69 l_p0 w K := by kernel_rfl
theorem c69 {l_p0 : Value} {w : World} {K : Value → World → Prop} (h : B69 l_p0 w K) : Calls prog 69 #[l_p0] w (Ret K) :=
  denFn_calls Tryz.func69 T69_ok (Eq.mpr (B69_eq l_p0 w K) h)

-- 68 (*holdfast/holdfastref03.Log).place
def T68 : Ann := (.seq .none (.seq .none (.seq (.seq .none (.block (.loop 18014398509351904 [5, 6] (.seq (.seq .none (.seq .none .none)) (.block (.seq .none (.seq (.seq .none (.block (.loop 562941363487264 [5, 9] (.seq (.seq .none (.seq .none .none)) (.meet 562400197607456 [5] (.block (.seq .none (.seq .none .none))) .none))))) .none))))))) (.seq .none .none))))
theorem T68_ok : chkFn prog Tryz.f68 T68 = true := by kernel_rfl
def B68 (l_p0 p_p1 : Value) (w : World) (K : Value → World → Prop) : Prop :=
  pv prog (oNil l_p0) w fun t_0 w =>
  pvv prog (Instr.fieldAt 108 t_0 1) w fun t_1 w =>
  ldv prog (Instr.loadAt 3 t_1) w fun t_2 w =>
  pvv prog (binOp .add 3 t_2 (.int .i64 1)) w fun t_3 w =>
  pvv prog (binOp .add 3 t_3 p_p1) w fun t_4 w =>
  lp (fun σ w again_7 => pop σ fun at_5 σ => pop σ fun n_6 σ => fin σ <|
    pv prog (oNil l_p0) w fun t_8 w =>
    pvv prog (Instr.fieldAt 108 t_8 3) w fun t_9 w =>
    ldv prog (Instr.loadAt 3 t_9) w fun t_10 w =>
    pvv prog (binOp .leq 3 n_6 t_10) w fun t_11 w =>
    cd t_11 (
      pv prog (oNil l_p0) w fun t_12 w =>
      pvv prog (Instr.fieldAt 108 t_12 3) w fun t_13 w =>
      ldv prog (Instr.loadAt 3 t_13) w fun t_14 w =>
      Calls prog 64 #[l_p0, n_6, t_14] w (Ret fun t_15 w =>
      pvv prog (Instr.extract t_15 0) w fun t_16 w =>
      pvv prog (Instr.extract t_15 1) w fun t_17 w =>
      lp (fun σ w again_20 => pop σ fun at_18 σ => pop σ fun i_19 σ => fin σ <|
        pv prog (oBi .len #[29] 3 #[false] #[t_16]) w fun t_21 w =>
        pvv prog (binOp .lss 3 i_19 t_21) w fun t_22 w =>
        cd t_22 (
          jn (fun σ w => pop σ fun at_23 σ => fin σ <|
            pvv prog (binOp .add 3 i_19 (.int .i64 1)) w fun t_24 w =>
            again_20 [at_23, t_24] w) fun k_25 =>
          pvv prog (Instr.indexAt 29 t_16 i_19) w fun t_26 w =>
          ldv prog (Instr.loadAt 3 t_26) w fun t_27 w =>
          pvv prog (oEq .eql 3 (.tmp 42) (.tmp 43) t_27 p_p1) w fun t_28 w =>
          cd t_28 (
            pvv prog (binOp .add 3 n_6 (.int .i64 1)) w fun t_29 w =>
            pvv prog (binOp .add 3 t_29 i_19) w fun t_30 w =>
            k_25 [t_30] w) <|
          k_25 [at_18] w) <|
        pv prog (oBi .len #[29] 3 #[false] #[t_16]) w fun t_31 w =>
        pvv prog (binOp .add 3 (.int .i64 1) t_31) w fun t_32 w =>
        pvv prog (binOp .add 3 n_6 t_32) w fun t_33 w =>
        again_7 [at_18, t_33] w) [at_5, (.int .i64 0)] w)) <|
    K at_5 w) [t_4, (.int .i64 1)] w
theorem B68_eq (l_p0 p_p1 : Value) (w : World) (K : Value → World → Prop) : denFn prog Tryz.f68 T68 [l_p0, p_p1] w K = B68 l_p0 p_p1 w K := by kernel_rfl
theorem c68 {l_p0 p_p1 : Value} {w : World} {K : Value → World → Prop} (h : B68 l_p0 p_p1 w K) : Calls prog 68 #[l_p0, p_p1] w (Ret K) :=
  denFn_calls Tryz.func68 T68_ok (Eq.mpr (B68_eq l_p0 p_p1 w K) h)

-- 67 (*holdfast/holdfastref01.Disk).Write
def T67 : Ann := (.seq .none (.seq (.block (.seq .none (.seq (.seq .none .none) (.seq .none (.seq (.seq .none .none) (.seq .none (.seq (.seq .none .none) .none))))))) (.seq .none (.seq .none (.seq .none (.seq .none .none))))))
theorem T67_ok : chkFn prog Tryz.f67 T67 = true := by kernel_rfl
def B67 (d_p0 n_p1 b_p2 : Value) (w : World) (K : Value → World → Prop) : Prop :=
  pvv prog (oEq .eql 55 (.tmp 9) (.const (.pointer none)) d_p0 (.pointer none)) w fun t_0 w =>
  cd t_0 (
    K (.int .i64 1) w) <|
  pvv prog (binOp .lss 3 n_p1 (.int .i64 0)) w fun t_1 w =>
  gate (some (t_1, false)) (fun K => K n_p1 w) w fun t_2 w =>
  gate (some (t_1, false)) (fun K => K d_p0 w) w fun t_3 w =>
  gate (some (t_1, false)) (fun K => pv prog (oNil t_3) w K) w fun t_4 w =>
  gate (some (t_1, false)) (fun K => pvv prog (Instr.fieldAt 105 t_4 0) w K) w fun t_5 w =>
  gate (some (t_1, false)) (fun K => ldv prog (Instr.loadAt 32 t_5) w K) w fun t_6 w =>
  gate (some (t_1, false)) (fun K => pv prog (oBi .len #[32] 3 #[false] #[t_6]) w K) w fun t_7 w =>
  gate (some (t_1, false)) (fun K => pvv prog (binOp .geq 3 t_2 t_7) w K) w fun t_8 w =>
  pv prog (oPick t_1 (.bool true) t_8) w fun t_9 w =>
  cd t_9 (
    K (.int .i64 2) w) <|
  pv prog (oBi .len #[60] 3 #[false] #[b_p2]) w fun t_10 w =>
  pvv prog (oEq .neq 3 (.tmp 25) (.const (.int .i64 256)) t_10 (.int .i64 256)) w fun t_11 w =>
  cd t_11 (
    K (.int .i64 3) w) <|
  pv prog (oNil d_p0) w fun t_12 w =>
  pvv prog (Instr.fieldAt 105 t_12 1) w fun t_13 w =>
  ldv prog (Instr.loadAt 103 t_13) w fun t_14 w =>
  ef prog (oBi .append #[103, 103] 103 #[false, false] #[(.slice none 0 0), t_14]) w fun t_15 w =>
  Calls prog 90 #[b_p2] w (Ret fun t_16 w =>
  pvv prog (Instr.build 132 #[(0, n_p1), (1, t_16)]) w fun t_17 w =>
  efv prog (Instr.buildSlice 103 1 #[(0, t_17)]) w fun t_18 w =>
  ef prog (oBi .append #[103, 103] 103 #[false, false] #[t_15, t_18]) w fun t_19 w =>
  pv prog (oNil d_p0) w fun t_20 w =>
  pvv prog (Instr.fieldAt 105 t_20 1) w fun t_21 w =>
  efu prog (Instr.storeAt 103 t_21 t_19) w fun u_22 w =>
  K (.int .i64 0) w)
theorem B67_eq (d_p0 n_p1 b_p2 : Value) (w : World) (K : Value → World → Prop) : denFn prog Tryz.f67 T67 [d_p0, n_p1, b_p2] w K = B67 d_p0 n_p1 b_p2 w K := by kernel_rfl
theorem c67 {d_p0 n_p1 b_p2 : Value} {w : World} {K : Value → World → Prop} (h : B67 d_p0 n_p1 b_p2 w K) : Calls prog 67 #[d_p0, n_p1, b_p2] w (Ret K) :=
  denFn_calls Tryz.func67 T67_ok (Eq.mpr (B67_eq d_p0 n_p1 b_p2 w K) h)

-- 107 math/bits.Len32
def T107 : Ann := (.seq .none (.meet 125 [0, 2] (.seq .none (.seq (.seq .none .none) .none)) (.meet 8069 [0, 2] (.seq .none (.seq (.seq .none .none) .none)) (.seq .none .none))))
theorem T107_ok : chkFn prog Tryz.f107 T107 = true := by kernel_rfl
def B107 (x_p0 : Value) (w : World) (K : Value → World → Prop) : Prop :=
  jn (fun σ w => pop σ fun x_0 σ => pop σ fun n_1 σ => fin σ <|
    jn (fun σ w => pop σ fun x_2 σ => pop σ fun n_3 σ => fin σ <|
      pvv prog (convert 149 5 x_2) w fun t_4 w =>
      pvv prog (Instr.index 9 (.string ⟨#[0, 1, 2, 2, 3, 3, 3, 3, 4, 4, 4, 4, 4, 4, 4, 4, 5, 5, 5, 5, 5, 5, 5, 5, 5, 5, 5, 5, 5, 5, 5, 5, 6, 6, 6, 6, 6, 6, 6, 6, 6, 6, 6, 6, 6, 6, 6, 6, 6, 6, 6, 6, 6, 6, 6, 6, 6, 6, 6, 6, 6, 6, 6, 6, 7, 7, 7, 7, 7, 7, 7, 7, 7, 7, 7, 7, 7, 7, 7, 7, 7, 7, 7, 7, 7, 7, 7, 7, 7, 7, 7, 7, 7, 7, 7, 7, 7, 7, 7, 7, 7, 7, 7, 7, 7, 7, 7, 7, 7, 7, 7, 7, 7, 7, 7, 7, 7, 7, 7, 7, 7, 7, 7, 7, 7, 7, 7, 7, 8, 8, 8, 8, 8, 8, 8, 8, 8, 8, 8, 8, 8, 8, 8, 8, 8, 8, 8, 8, 8, 8, 8, 8, 8, 8, 8, 8, 8, 8, 8, 8, 8, 8, 8, 8, 8, 8, 8, 8, 8, 8, 8, 8, 8, 8, 8, 8, 8, 8, 8, 8, 8, 8, 8, 8, 8, 8, 8, 8, 8, 8, 8, 8, 8, 8, 8, 8, 8, 8, 8, 8, 8, 8, 8, 8, 8, 8, 8, 8, 8, 8, 8, 8, 8, 8, 8, 8, 8, 8, 8, 8, 8, 8, 8, 8, 8, 8, 8, 8, 8, 8, 8, 8, 8, 8, 8, 8, 8, 8, 8, 8, 8, 8, 8, 8, 8, 8, 8, 8, 8, 8, 8, 8, 8, 8, 8, 8]⟩) t_4) w fun t_5 w =>
      pvv prog (convert 5 3 t_5) w fun t_6 w =>
      pvv prog (binOp .add 3 n_3 t_6) w fun t_7 w =>
      K t_7 w) fun k_8 =>
    pvv prog (binOp .geq 149 x_0 (.int .u32 256)) w fun t_9 w =>
    cd t_9 (
      pvv prog (binOp .shr 149 x_0 (.int .u64 8)) w fun t_10 w =>
      pvv prog (binOp .add 3 n_1 (.int .i64 8)) w fun t_11 w =>
      k_8 [t_10, t_11] w) <|
    k_8 [x_0, n_1] w) fun k_12 =>
  pvv prog (binOp .geq 149 x_p0 (.int .u32 65536)) w fun t_13 w =>
  cd t_13 (
    pvv prog (binOp .shr 149 x_p0 (.int .u64 16)) w fun t_14 w =>
    k_12 [t_14, (.int .i64 16)] w) <|
  k_12 [x_p0, (.int .i64 0)] w
theorem B107_eq (x_p0 : Value) (w : World) (K : Value → World → Prop) : denFn prog Tryz.f107 T107 [x_p0] w K = B107 x_p0 w K := by kernel_rfl
theorem c107 {x_p0 : Value} {w : World} {K : Value → World → Prop} (h : B107 x_p0 w K) : Calls prog 107 #[x_p0] w (Ret K) :=
  denFn_calls Tryz.func107 T107_ok (Eq.mpr (B107_eq x_p0 w K) h)

-- 29 (*holdfast/block.Disk).Writes
def T29 : Ann := (.seq .none (.seq .none (.meet 8388584 [3] (.seq .none (.seq (.seq .none (.block (.loop 8380456 [3, 13] (.seq .none (.seq (.seq .none .none) (.seq (.block (.seq .none .none)) .none)))))) .none)) (.seq .none .none))))
theorem T29_ok : chkFn prog Tryz.f29 T29 = true := by kernel_rfl
def B29 (d_p0 : Value) (w : World) (K : Value → World → Prop) : Prop :=
  jn (fun σ w => pop σ fun out_0 σ => fin σ <|
    K out_0 w) fun k_1 =>
  pvv prog (oEq .neq 42 (.tmp 6) (.const (.pointer none)) d_p0 (.pointer none)) w fun t_2 w =>
  cd t_2 (
    pv prog (oNil d_p0) w fun t_3 w =>
    pvv prog (Instr.fieldAt 88 t_3 1) w fun t_4 w =>
    ldv prog (Instr.loadAt 81 t_4) w fun t_5 w =>
    pv prog (oBi .len #[81] 3 #[false] #[t_5]) w fun t_6 w =>
    lp (fun σ w again_9 => pop σ fun out_7 σ => pop σ fun t_8 σ => fin σ <|
      pvv prog (binOp .lss 3 t_8 t_6) w fun t_10 w =>
      cd t_10 (
        pvv prog (Instr.indexAt 81 t_5 t_8) w fun t_11 w =>
        ldv prog (Instr.loadAt 95 t_11) w fun t_12 w =>
        efv prog (Instr.alloc 95 true (.tuple #[])) w fun w_13 w =>
        efu prog (Instr.storeAt 95 w_13 t_12) w fun u_14 w =>
        pvv prog (Instr.fieldAt 95 w_13 0) w fun t_15 w =>
        ldv prog (Instr.loadAt 3 t_15) w fun t_16 w =>
        efv prog (Instr.buildSlice 29 1 #[(0, t_16)]) w fun t_17 w =>
        ef prog (oBi .append #[29, 29] 29 #[false, false] #[out_7, t_17]) w fun t_18 w =>
        pvv prog (binOp .add 3 t_8 (.int .i64 1)) w fun t_19 w =>
        again_9 [t_18, t_19] w) <|
      k_1 [out_7] w) [(.slice none 0 0), (.int .i64 0)] w) <|
  k_1 [(.slice none 0 0)] w
theorem B29_eq (d_p0 : Value) (w : World) (K : Value → World → Prop) : denFn prog Tryz.f29 T29 [d_p0] w K = B29 d_p0 w K := by kernel_rfl
theorem c29 {d_p0 : Value} {w : World} {K : Value → World → Prop} (h : B29 d_p0 w K) : Calls prog 29 #[d_p0] w (Ret K) :=
  denFn_calls Tryz.func29 T29_ok (Eq.mpr (B29_eq d_p0 w K) h)

-- 39 holdfast/holdfastref01.SameBytes
def T39 : Ann := (.seq .none (.seq (.seq .none (.seq (.seq .none .none) .none)) (.seq (.seq .none (.block (.loop 67106864 [5] (.seq (.seq .none (.seq .none .none)) (.seq (.block (.seq (.draw [.op 0 .pure, .op 1 .pure, .op 2 .pure, .op 4 .pure, .op 5 .pure, .op 6 .pure, .op 3 .load, .op 7 .load, .op 8 .pure]) (.seq (.seq .none .none) .none))) .none))))) (.seq .none .none))))
theorem T39_ok : chkFn prog Tryz.f39 T39 = true := by kernel_rfl
def B39 (a_p0 b_p1 : Value) (w : World) (K : Value → World → Prop) : Prop :=
  pv prog (oBi .len #[60] 3 #[false] #[a_p0]) w fun t_0 w =>
  pv prog (oBi .len #[60] 3 #[false] #[b_p1]) w fun t_1 w =>
  pvv prog (oEq .neq 3 (.tmp 7) (.tmp 9) t_0 t_1) w fun t_2 w =>
  cd t_2 (
    K (.bool false) w) <|
  lp (fun σ w again_4 => pop σ fun i_3 σ => fin σ <|
    pv prog (oBi .len #[60] 3 #[false] #[a_p0]) w fun t_5 w =>
    pvv prog (binOp .lss 3 i_3 t_5) w fun t_6 w =>
    cd t_6 (
      dr w fun w =>
      pvv prog (Instr.indexAt 60 a_p0 i_3) w fun t_7 w =>
      pvv prog (Instr.indexAt 60 b_p1 i_3) w fun t_8 w =>
      bindS (vN (Instr.loadAt 5 t_7)) fun m_10 => ldv prog (Instr.loadAt 5 t_7) w fun t_9 w =>
      bindS (vN (Instr.loadAt 5 t_8)) fun m_12 => ldv prog (Instr.loadAt 5 t_8) w fun t_11 w =>
      pvv prog (oEq .neq 5 (.tmp 20) (.tmp 24) t_9 t_11) w fun t_13 w =>
      cd t_13 (
        K (.bool false) w) <|
      pvv prog (binOp .add 3 i_3 (.int .i64 1)) w fun t_14 w =>
      again_4 [t_14] w) <|
    K (.bool true) w) [(.int .i64 0)] w
theorem B39_eq (a_p0 b_p1 : Value) (w : World) (K : Value → World → Prop) : denFn prog Tryz.f39 T39 [a_p0, b_p1] w K = B39 a_p0 b_p1 w K := by kernel_rfl
theorem c39 {a_p0 b_p1 : Value} {w : World} {K : Value → World → Prop} (h : B39 a_p0 b_p1 w K) : Calls prog 39 #[a_p0, b_p1] w (Ret K) :=
  denFn_calls Tryz.func39 T39_ok (Eq.mpr (B39_eq a_p0 b_p1 w K) h)

-- 53 (*holdfast/wal.Log).Commit$1
def T53 : Ann := (.seq .none (.seq (.draw [.op 0 .pure, .op 1 .load, .op 2 .pure, .op 3 .pure, .op 4 .pure, .op 5 .load, .op 6 .load, .op 7 .eff, .op 8 .pure, .op 9 .pure, .op 10 .pure]) .none))
theorem T53_ok : chkFn prog Tryz.f53 T53 = true := by kernel_rfl
def B53 (p_p0 x_p1 : Value) (w : World) (K : Value → World → Prop) : Prop :=
  efv prog (Instr.box 65 p_p0) w fun p_0 w =>
  dr w fun w =>
  pvv prog (Instr.fieldAt 65 p_0 0) w fun t_1 w =>
  bindS (vN (Instr.loadAt 3 t_1)) fun m_3 => ldv prog (Instr.loadAt 3 t_1) w fun t_2 w =>
  pvv prog (binOp .lss 3 t_2 (.int .i64 0)) w fun t_4 w =>
  gate (some (t_4, false)) (fun K => pvv prog (Instr.fieldAt 65 p_0 0) w K) w fun t_5 w =>
  bindS (vN (Instr.loadAt 3 t_5)) fun m_7 => gate (some (t_4, false)) (fun K => ldv prog (Instr.loadAt 3 t_5) w K) w fun t_6 w =>
  bindS (vN (Instr.loadAt 23 x_p1)) fun m_9 => gate (some (t_4, false)) (fun K => ldv prog (Instr.loadAt 23 x_p1) w K) w fun t_8 w =>
  gate (some (t_4, false)) (fun K => Calls prog 33 #[t_8] w (Ret fun s_13 w => stay prog (some (t_4, false)) m_7 t_6 w <| stay prog none m_3 t_2 w <| K s_13 w)) w fun t_10 w =>
  gate (some (t_4, false)) (fun K => pvv prog (binOp .geq 3 t_6 t_10) w K) w fun t_11 w =>
  pv prog (oPick t_4 (.bool true) t_11) w fun t_12 w =>
  K t_12 w
theorem B53_eq (p_p0 x_p1 : Value) (w : World) (K : Value → World → Prop) : denFn prog Tryz.f53 T53 [p_p0, x_p1] w K = B53 p_p0 x_p1 w K := by kernel_rfl
theorem c53 {p_p0 x_p1 : Value} {w : World} {K : Value → World → Prop} (h : B53 p_p0 x_p1 w K) : Calls prog 53 #[p_p0, x_p1] w (Ret K) :=
  denFn_calls Tryz.func53 T53_ok (Eq.mpr (B53_eq p_p0 x_p1 w K) h)

-- 25 holdfast/block.Same
def T25 : Ann := (.seq .none (.seq (.seq .none (.seq (.seq .none .none) .none)) (.seq (.draw [.op 0 .pure, .op 1 .pure, .op 2 .pure, .op 4 .pure, .op 5 .pure, .op 6 .pure, .op 3 .load, .op 7 .load, .op 8 .eff, .op 9 .pure]) .none)))
theorem T25_ok : chkFn prog Tryz.f25 T25 = true := by kernel_rfl
def B25 (a_p0 b_p1 : Value) (w : World) (K : Value → World → Prop) : Prop :=
  pvv prog (oEq .eql 42 (.tmp 5) (.const (.pointer none)) a_p0 (.pointer none)) w fun t_0 w =>
  gate (some (t_0, false)) (fun K => K b_p1 w) w fun t_1 w =>
  gate (some (t_0, false)) (fun K => pvv prog (oEq .eql 42 (.tmp 8) (.const (.pointer none)) t_1 (.pointer none)) w K) w fun t_2 w =>
  pv prog (oPick t_0 (.bool true) t_2) w fun t_3 w =>
  cd t_3 (
    pvv prog (oEq .eql 42 (.tmp 11) (.tmp 12) a_p0 b_p1) w fun t_4 w =>
    K t_4 w) <|
  dr w fun w =>
  pv prog (oNil a_p0) w fun t_5 w =>
  pvv prog (Instr.fieldAt 88 t_5 0) w fun t_6 w =>
  pv prog (oNil b_p1) w fun t_7 w =>
  pvv prog (Instr.fieldAt 88 t_7 0) w fun t_8 w =>
  bindS (vN (Instr.loadAt 32 t_6)) fun m_10 => ldv prog (Instr.loadAt 32 t_6) w fun t_9 w =>
  bindS (vN (Instr.loadAt 32 t_8)) fun m_12 => ldv prog (Instr.loadAt 32 t_8) w fun t_11 w =>
  Calls prog 56 #[t_9, t_11, (.func (.func 57) #[] #[])] w (Ret fun t_13 w =>
  K t_13 w)
theorem B25_eq (a_p0 b_p1 : Value) (w : World) (K : Value → World → Prop) : denFn prog Tryz.f25 T25 [a_p0, b_p1] w K = B25 a_p0 b_p1 w K := by kernel_rfl
theorem c25 {a_p0 b_p1 : Value} {w : World} {K : Value → World → Prop} (h : B25 a_p0 b_p1 w K) : Calls prog 25 #[a_p0, b_p1] w (Ret K) :=
  denFn_calls Tryz.func25 T25_ok (Eq.mpr (B25_eq a_p0 b_p1 w K) h)

-- 84 slices.Backward[[]holdfast/block.write,holdfast/block.write]$1
def T84 : Ann := (.seq .none (.block (.loop 524168 [3] (.seq (.seq .none (.seq .none .none)) (.seq (.block (.seq .none (.seq .none .none))) .none)))))
theorem T84_ok : chkFn prog Tryz.f84 T84 = true := by kernel_rfl
def B84 (yield_p0 x_p1 : Value) (w : World) (K : Value → World → Prop) : Prop :=
  ldv prog (Instr.loadAt 81 x_p1) w fun t_0 w =>
  pv prog (oBi .len #[81] 3 #[false] #[t_0]) w fun t_1 w =>
  pvv prog (binOp .sub 3 t_1 (.int .i64 1)) w fun t_2 w =>
  lp (fun σ w again_4 => pop σ fun i_3 σ => fin σ <|
    pvv prog (binOp .geq 3 i_3 (.int .i64 0)) w fun t_5 w =>
    cd t_5 (
      ldv prog (Instr.loadAt 81 x_p1) w fun t_6 w =>
      pvv prog (Instr.indexAt 81 t_6 i_3) w fun t_7 w =>
      ldv prog (Instr.loadAt 95 t_7) w fun t_8 w =>
      ef prog (oCall yield_p0 #[i_3, t_8]) w fun t_9 w =>
      pvv prog (Op.unary .not t_9) w fun t_10 w =>
      cd t_10 (
        K (.tuple #[]) w) <|
      pvv prog (binOp .sub 3 i_3 (.int .i64 1)) w fun t_11 w =>
      again_4 [t_11] w) <|
    K (.tuple #[]) w) [t_2] w
theorem B84_eq (yield_p0 x_p1 : Value) (w : World) (K : Value → World → Prop) : denFn prog Tryz.f84 T84 [yield_p0, x_p1] w K = B84 yield_p0 x_p1 w K := by kernel_rfl
theorem c84 {yield_p0 x_p1 : Value} {w : World} {K : Value → World → Prop} (h : B84 yield_p0 x_p1 w K) : Calls prog 84 #[yield_p0, x_p1] w (Ret K) :=
  denFn_calls Tryz.func84 T84_ok (Eq.mpr (B84_eq yield_p0 x_p1 w K) h)

-- 63 holdfast/holdfastref03.pair
def T63 : Ann := (.seq .none (.seq (.draw [.op 0 .pure, .op 1 .pure, .op 2 .pure, .op 6 .pure, .op 7 .pure, .op 8 .pure, .op 9 .pure, .op 3 .load, .op 4 .pure, .op 5 .pure, .op 10 .load, .op 11 .pure, .op 12 .pure, .op 13 .pure]) .none))
theorem T63_ok : chkFn prog Tryz.f63 T63 = true := by kernel_rfl
def B63 (b_p0 at_p1 : Value) (w : World) (K : Value → World → Prop) : Prop :=
  dr w fun w =>
  pvv prog (Instr.indexAt 60 b_p0 at_p1) w fun t_0 w =>
  pvv prog (binOp .add 3 at_p1 (.int .i64 1)) w fun t_1 w =>
  pvv prog (Instr.indexAt 60 b_p0 t_1) w fun t_2 w =>
  bindS (vN (Instr.loadAt 5 t_0)) fun m_4 => ldv prog (Instr.loadAt 5 t_0) w fun t_3 w =>
  pvv prog (convert 5 3 t_3) w fun t_5 w =>
  pvv prog (binOp .shl 3 t_5 (.int .u64 8)) w fun t_6 w =>
  bindS (vN (Instr.loadAt 5 t_2)) fun m_8 => ldv prog (Instr.loadAt 5 t_2) w fun t_7 w =>
  pvv prog (convert 5 3 t_7) w fun t_9 w =>
  pvv prog (binOp .or 3 t_6 t_9) w fun t_10 w =>
  K t_10 w
theorem B63_eq (b_p0 at_p1 : Value) (w : World) (K : Value → World → Prop) : denFn prog Tryz.f63 T63 [b_p0, at_p1] w K = B63 b_p0 at_p1 w K := by kernel_rfl
theorem c63 {b_p0 at_p1 : Value} {w : World} {K : Value → World → Prop} (h : B63 b_p0 at_p1 w K) : Calls prog 63 #[b_p0, at_p1] w (Ret K) :=
  denFn_calls Tryz.func63 T63_ok (Eq.mpr (B63_eq b_p0 at_p1 w K) h)

-- 44 holdfast/wal.get
def T44 : Ann := (.seq .none (.seq .none (.seq (.seq .none (.block (.loop 261928 [3, 8] (.seq .none (.seq (.seq .none .none) (.seq (.block (.seq .none .none)) .none)))))) (.seq .none .none))))
theorem T44_ok : chkFn prog Tryz.f44 T44 = true := by kernel_rfl
def B44 (b_p0 : Value) (w : World) (K : Value → World → Prop) : Prop :=
  pv prog (oBi .len #[60] 3 #[false] #[b_p0]) w fun t_0 w =>
  lp (fun σ w again_3 => pop σ fun n_1 σ => pop σ fun t_2 σ => fin σ <|
    pvv prog (binOp .lss 3 t_2 t_0) w fun t_4 w =>
    cd t_4 (
      pvv prog (Instr.indexAt 60 b_p0 t_2) w fun t_5 w =>
      ldv prog (Instr.loadAt 5 t_5) w fun t_6 w =>
      pvv prog (binOp .shl 3 n_1 (.int .u64 8)) w fun t_7 w =>
      pvv prog (convert 5 3 t_6) w fun t_8 w =>
      pvv prog (binOp .or 3 t_7 t_8) w fun t_9 w =>
      pvv prog (binOp .add 3 t_2 (.int .i64 1)) w fun t_10 w =>
      again_3 [t_9, t_10] w) <|
    K n_1 w) [(.int .i64 0), (.int .i64 0)] w
theorem B44_eq (b_p0 : Value) (w : World) (K : Value → World → Prop) : denFn prog Tryz.f44 T44 [b_p0] w K = B44 b_p0 w K := by kernel_rfl
theorem c44 {b_p0 : Value} {w : World} {K : Value → World → Prop} (h : B44 b_p0 w K) : Calls prog 44 #[b_p0] w (Ret K) :=
  denFn_calls Tryz.func44 T44_ok (Eq.mpr (B44_eq b_p0 w K) h)

-- 96 slices.IndexFunc[[]byte,byte]
def T96 : Ann := (.seq .none (.seq (.seq .none (.block (.loop 524080 [8] (.seq .none (.seq (.seq .none .none) (.seq (.block (.seq .none (.seq .none (.seq (.seq .none .none) .none)))) .none)))))) (.seq .none .none)))
theorem T96_ok : chkFn prog Tryz.f96 T96 = true := by kernel_rfl
def B96 (s_p0 f_p1 : Value) (w : World) (K : Value → World → Prop) : Prop :=
  pv prog (oBi .len #[60] 3 #[false] #[s_p0]) w fun t_0 w =>
  lp (fun σ w again_2 => pop σ fun t_1 σ => fin σ <|
    pvv prog (binOp .lss 3 t_1 t_0) w fun t_3 w =>
    cd t_3 (
      pvv prog (Instr.indexAt 60 s_p0 t_1) w fun t_4 w =>
      ldv prog (Instr.loadAt 5 t_4) w fun t_5 w =>
      ef prog (oCall f_p1 #[t_5]) w fun t_6 w =>
      cd t_6 (
        K t_1 w) <|
      pvv prog (binOp .add 3 t_1 (.int .i64 1)) w fun t_7 w =>
      again_2 [t_7] w) <|
    K (.int .i64 (-1)) w) [(.int .i64 0)] w
theorem B96_eq (s_p0 f_p1 : Value) (w : World) (K : Value → World → Prop) : denFn prog Tryz.f96 T96 [s_p0, f_p1] w K = B96 s_p0 f_p1 w K := by kernel_rfl
theorem c96 {s_p0 f_p1 : Value} {w : World} {K : Value → World → Prop} (h : B96 s_p0 f_p1 w K) : Calls prog 96 #[s_p0, f_p1] w (Ret K) :=
  denFn_calls Tryz.func96 T96_ok (Eq.mpr (B96_eq s_p0 f_p1 w K) h)

-- 92 slices.AppendSeq[[]int,int]
def T92 : Ann := (.seq .none (.seq (.seq .none (.block (.range .none (.block .none)))) (.seq .none .none)))
theorem T92_ok : chkFn prog Tryz.f92 T92 = true := by kernel_rfl
def B92 (s_p0 seq_p1 : Value) (w : World) (K : Value → World → Prop) : Prop :=
  efv prog (Instr.box 29 s_p0) w fun s_0 w =>
  rng prog 1 seq_p1 (fun σ w bg_2 ex_3 => pop σ fun t_1 σ => fin σ <|
    bg_2 w fun w =>
    ldv prog (Instr.loadAt 29 s_0) w fun t_4 w =>
    efv prog (Instr.buildSlice 29 1 #[(0, t_1)]) w fun t_5 w =>
    ef prog (oBi .append #[29, 29] 29 #[false, false] #[t_4, t_5]) w fun t_6 w =>
    efu prog (Instr.storeAt 29 s_0 t_6) w fun u_7 w =>
    ex_3 .normal w) w fun p_9 D_8 w =>
  jump (
    ldv prog (Instr.loadAt 29 s_0) w fun t_10 w =>
    und [D_8] w fun w => K t_10 w) (
    und [D_8] w fun w => K (.slice none 0 0) w) [] p_9
theorem B92_eq (s_p0 seq_p1 : Value) (w : World) (K : Value → World → Prop) : denFn prog Tryz.f92 T92 [s_p0, seq_p1] w K = B92 s_p0 seq_p1 w K := by kernel_rfl
theorem c92 {s_p0 seq_p1 : Value} {w : World} {K : Value → World → Prop} (h : B92 s_p0 seq_p1 w K) : Calls prog 92 #[s_p0, seq_p1] w (Ret K) :=
  denFn_calls Tryz.func92 T92_ok (Eq.mpr (B92_eq s_p0 seq_p1 w K) h)

-- 17 (*holdfast/wal.Log).Disk
def T17 : Ann := (.seq .none (.seq (.seq .none (.seq (.seq .none .none) .none)) (.seq .none .none)))
theorem T17_ok : chkFn prog Tryz.f17 T17 = true := by kernel_rfl
def B17 (l_p0 : Value) (w : World) (K : Value → World → Prop) : Prop :=
  pvv prog (oEq .eql 23 (.tmp 3) (.const (.pointer none)) l_p0 (.pointer none)) w fun t_0 w =>
  cd t_0 (
    K (.pointer none) w) <|
  pv prog (oNil l_p0) w fun t_1 w =>
  pvv prog (Instr.fieldAt 70 t_1 0) w fun t_2 w =>
  pvv prog (Instr.fieldAt 67 t_2 0) w fun t_3 w =>
  ldv prog (Instr.loadAt 42 t_3) w fun t_4 w =>
  Calls prog 47 #[t_4] w (Ret fun t_5 w =>
  K t_5 w)
theorem B17_eq (l_p0 : Value) (w : World) (K : Value → World → Prop) : denFn prog Tryz.f17 T17 [l_p0] w K = B17 l_p0 w K := by kernel_rfl
theorem c17 {l_p0 : Value} {w : World} {K : Value → World → Prop} (h : B17 l_p0 w K) : Calls prog 17 #[l_p0] w (Ret K) :=
  denFn_calls Tryz.func17 T17_ok (Eq.mpr (B17_eq l_p0 w K) h)

-- 14 (*holdfast/wal.Log).Touched
def T14 : Ann := (.seq .none (.seq (.seq .none (.seq (.seq .none .none) .none)) (.seq .none .none)))
theorem T14_ok : chkFn prog Tryz.f14 T14 = true := by kernel_rfl
def B14 (l_p0 : Value) (w : World) (K : Value → World → Prop) : Prop :=
  pvv prog (oEq .eql 23 (.tmp 3) (.const (.pointer none)) l_p0 (.pointer none)) w fun t_0 w =>
  cd t_0 (
    K (.slice none 0 0) w) <|
  pv prog (oNil l_p0) w fun t_1 w =>
  pvv prog (Instr.fieldAt 70 t_1 4) w fun t_2 w =>
  ldv prog (Instr.loadAt 68 t_2) w fun t_3 w =>
  Calls prog 38 #[t_3] w (Ret fun t_4 w =>
  Calls prog 37 #[t_4] w (Ret fun t_5 w =>
  K t_5 w))
theorem B14_eq (l_p0 : Value) (w : World) (K : Value → World → Prop) : denFn prog Tryz.f14 T14 [l_p0] w K = B14 l_p0 w K := by kernel_rfl
theorem c14 {l_p0 : Value} {w : World} {K : Value → World → Prop} (h : B14 l_p0 w K) : Calls prog 14 #[l_p0] w (Ret K) :=
  denFn_calls Tryz.func14 T14_ok (Eq.mpr (B14_eq l_p0 w K) h)

-- 80 slices.Clone[[][]byte,[]byte]
def T80 : Ann := (.seq .none (.seq (.seq .none (.seq (.seq .none .none) .none)) (.seq .none .none)))
theorem T80_ok : chkFn prog Tryz.f80 T80 = true := by kernel_rfl
def B80 (s_p0 : Value) (w : World) (K : Value → World → Prop) : Prop :=
  pvv prog (oEq .eql 32 (.tmp 3) (.const (.slice none 0 0)) s_p0 (.slice none 0 0)) w fun t_0 w =>
  cd t_0 (
    K (.slice none 0 0) w) <|
  efv prog (Instr.buildSlice 32 0 #[]) w fun t_1 w =>
  ef prog (oBi .append #[32, 32] 32 #[false, false] #[t_1, s_p0]) w fun t_2 w =>
  K t_2 w
theorem B80_eq (s_p0 : Value) (w : World) (K : Value → World → Prop) : denFn prog Tryz.f80 T80 [s_p0] w K = B80 s_p0 w K := by kernel_rfl
theorem c80 {s_p0 : Value} {w : World} {K : Value → World → Prop} (h : B80 s_p0 w K) : Calls prog 80 #[s_p0] w (Ret K) :=
  denFn_calls Tryz.func80 T80_ok (Eq.mpr (B80_eq s_p0 w K) h)

-- 18 (*holdfast/wal.Log).Groups
def T18 : Ann := (.seq .none (.seq (.seq .none (.seq (.seq .none .none) .none)) (.seq .none .none)))
theorem T18_ok : chkFn prog Tryz.f18 T18 = true := by kernel_rfl
def B18 (l_p0 : Value) (w : World) (K : Value → World → Prop) : Prop :=
  pvv prog (oEq .eql 23 (.tmp 3) (.const (.pointer none)) l_p0 (.pointer none)) w fun t_0 w =>
  cd t_0 (
    K (.int .i64 0) w) <|
  pv prog (oNil l_p0) w fun t_1 w =>
  pvv prog (Instr.fieldAt 70 t_1 2) w fun t_2 w =>
  ldv prog (Instr.loadAt 3 t_2) w fun t_3 w =>
  K t_3 w
theorem B18_eq (l_p0 : Value) (w : World) (K : Value → World → Prop) : denFn prog Tryz.f18 T18 [l_p0] w K = B18 l_p0 w K := by kernel_rfl
theorem c18 {l_p0 : Value} {w : World} {K : Value → World → Prop} (h : B18 l_p0 w K) : Calls prog 18 #[l_p0] w (Ret K) :=
  denFn_calls Tryz.func18 T18_ok (Eq.mpr (B18_eq l_p0 w K) h)

-- 72 (*sync/atomic.Int64).Add
def T72 : Ann := (.seq .none (.seq .none .none))
theorem T72_ok : chkFn prog Tryz.f72 T72 = true := by kernel_rfl
def B72 (x_p0 delta_p1 : Value) (w : World) (K : Value → World → Prop) : Prop :=
  pv prog (oNil x_p0) w fun t_0 w =>
  pvv prog (Instr.fieldAt 86 t_0 2) w fun t_1 w =>
  ef prog (oCall (.func (.func 91) #[] #[]) #[t_1, delta_p1]) w fun t_2 w =>
  K t_2 w
theorem B72_eq (x_p0 delta_p1 : Value) (w : World) (K : Value → World → Prop) : denFn prog Tryz.f72 T72 [x_p0, delta_p1] w K = B72 x_p0 delta_p1 w K := by kernel_rfl
theorem c72 {x_p0 delta_p1 : Value} {w : World} {K : Value → World → Prop} (h : B72 x_p0 delta_p1 w K) : Calls prog 72 #[x_p0, delta_p1] w (Ret K) :=
  denFn_calls Tryz.func72 T72_ok (Eq.mpr (B72_eq x_p0 delta_p1 w K) h)

-- 76 slices.ContainsFunc[[][]byte,[]byte]
def T76 : Ann := (.seq .none (.seq .none .none))
theorem T76_ok : chkFn prog Tryz.f76 T76 = true := by kernel_rfl
def B76 (s_p0 f_p1 : Value) (w : World) (K : Value → World → Prop) : Prop :=
  Calls prog 95 #[s_p0, f_p1] w (Ret fun t_0 w =>
  pvv prog (binOp .geq 3 t_0 (.int .i64 0)) w fun t_1 w =>
  K t_1 w)
theorem B76_eq (s_p0 f_p1 : Value) (w : World) (K : Value → World → Prop) : denFn prog Tryz.f76 T76 [s_p0, f_p1] w K = B76 s_p0 f_p1 w K := by kernel_rfl
theorem c76 {s_p0 f_p1 : Value} {w : World} {K : Value → World → Prop} (h : B76 s_p0 f_p1 w K) : Calls prog 76 #[s_p0, f_p1] w (Ret K) :=
  denFn_calls Tryz.func76 T76_ok (Eq.mpr (B76_eq s_p0 f_p1 w K) h)

-- 78 slices.ContainsFunc[[]byte,byte]
def T78 : Ann := (.seq .none (.seq .none .none))
theorem T78_ok : chkFn prog Tryz.f78 T78 = true := by kernel_rfl
def B78 (s_p0 f_p1 : Value) (w : World) (K : Value → World → Prop) : Prop :=
  Calls prog 96 #[s_p0, f_p1] w (Ret fun t_0 w =>
  pvv prog (binOp .geq 3 t_0 (.int .i64 0)) w fun t_1 w =>
  K t_1 w)
theorem B78_eq (s_p0 f_p1 : Value) (w : World) (K : Value → World → Prop) : denFn prog Tryz.f78 T78 [s_p0, f_p1] w K = B78 s_p0 f_p1 w K := by kernel_rfl
theorem c78 {s_p0 f_p1 : Value} {w : World} {K : Value → World → Prop} (h : B78 s_p0 f_p1 w K) : Calls prog 78 #[s_p0, f_p1] w (Ret K) :=
  denFn_calls Tryz.func78 T78_ok (Eq.mpr (B78_eq s_p0 f_p1 w K) h)

-- 38 maps.Keys[map[int]int,int,int]
def T38 : Ann := (.seq .none (.seq .none .none))
theorem T38_ok : chkFn prog Tryz.f38 T38 = true := by kernel_rfl
def B38 (m_p0 : Value) (w : World) (K : Value → World → Prop) : Prop :=
  efv prog (Instr.box 68 m_p0) w fun m_0 w =>
  pvv prog (Instr.makeFunc (.func 75) #[] #[m_0]) w fun t_1 w =>
  K t_1 w
theorem B38_eq (m_p0 : Value) (w : World) (K : Value → World → Prop) : denFn prog Tryz.f38 T38 [m_p0] w K = B38 m_p0 w K := by kernel_rfl
theorem c38 {m_p0 : Value} {w : World} {K : Value → World → Prop} (h : B38 m_p0 w K) : Calls prog 38 #[m_p0] w (Ret K) :=
  denFn_calls Tryz.func38 T38_ok (Eq.mpr (B38_eq m_p0 w K) h)

-- 90 holdfast/holdfastref01.Copy
def T90 : Ann := (.seq .none (.seq .none (.seq .none .none)))
theorem T90_ok : chkFn prog Tryz.f90 T90 = true := by kernel_rfl
def B90 (b_p0 : Value) (w : World) (K : Value → World → Prop) : Prop :=
  ef prog (oBi .append #[60, 60] 60 #[false, false] #[(.slice none 0 0), b_p0]) w fun t_0 w =>
  K t_0 w
theorem B90_eq (b_p0 : Value) (w : World) (K : Value → World → Prop) : denFn prog Tryz.f90 T90 [b_p0] w K = B90 b_p0 w K := by kernel_rfl
theorem c90 {b_p0 : Value} {w : World} {K : Value → World → Prop} (h : B90 b_p0 w K) : Calls prog 90 #[b_p0] w (Ret K) :=
  denFn_calls Tryz.func90 T90_ok (Eq.mpr (B90_eq b_p0 w K) h)


end Go.Proofs.YtgkeplodfkmnlaaGreat
