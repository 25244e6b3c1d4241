import Derived.Test.YtmnaalpjhkkglaaDoorPI
set_option linter.all false
set_option maxRecDepth 100000
namespace Go.Proofs.YtmnaalpjhkkglaaDoor
open Go Hold
-- 27 (holdfast/hash.words).mix
def T27 : Ann := (.seq .none (.seq .none (.seq (.seq .none (.block (.loop 324518553658426726783156020315904 [18] (.seq .none (.seq (.seq .none .none) (.meet 162259276829213363391578009241344 [] (.block (.seq .none (.seq (.seq .none (.seq (.seq (.draw [.op 0 .pure, .op 1 .pure, .op 2 .pure, .op 3 .pure, .op 4 .pure, .op 8 .pure, .op 9 .pure, .op 10 .pure, .op 11 .pure, .op 12 .pure, .op 17 .pure, .op 18 .pure, .op 19 .pure, .op 20 .pure, .op 21 .pure, .op 26 .pure, .op 27 .pure, .op 28 .pure, .op 29 .pure, .op 30 .pure, .op 5 .load, .op 6 .pure, .op 7 .pure, .op 13 .load, .op 14 .pure, .op 15 .pure, .op 16 .pure, .op 22 .load, .op 23 .pure, .op 24 .pure, .op 25 .pure, .op 31 .load, .op 32 .pure, .op 33 .pure, .op 34 .pure, .op 35 .eff]) .none) .none)) (.seq (.draw [.op 0 .pure, .op 1 .pure, .op 2 .pure, .op 5 .pure, .op 6 .pure, .op 7 .pure, .op 11 .pure, .op 12 .pure, .op 13 .pure, .op 3 .load, .op 8 .load, .op 14 .load, .op 15 .pure, .op 4 .eff, .op 9 .eff, .op 10 .pure, .op 16 .pure, .op 17 .pure]) (.seq (.draw [.op 0 .pure, .op 1 .pure, .op 2 .pure, .op 5 .pure, .op 6 .pure, .op 7 .pure, .op 11 .pure, .op 12 .pure, .op 13 .pure, .op 3 .load, .op 8 .load, .op 14 .load, .op 15 .pure, .op 4 .eff, .op 9 .eff, .op 10 .pure, .op 16 .pure, .op 17 .pure]) (.draw [.op 0 .pure, .op 1 .pure, .op 2 .pure, .op 3 .pure, .op 5 .pure, .op 7 .pure, .op 8 .pure, .op 9 .pure, .op 12 .pure, .op 4 .load, .op 6 .pure, .op 10 .load, .op 11 .pure, .op 13 .pure, .op 14 .pure, .op 15 .eff])))))) .none)))))) (.seq .none (.seq (.seq .none (.block (.loop 784637716923335095479473028863850985159340864245963288576 [109] (.seq .none (.seq (.seq .none .none) (.seq (.block (.seq .none (.seq (.draw [.op 0 .pure, .op 3 .pure, .op 7 .pure, .op 1 .load, .op 4 .load, .op 8 .load, .op 2 .eff, .op 5 .eff, .op 6 .pure, .op 9 .eff, .op 10 .pure, .op 11 .pure]) (.seq (.draw [.op 0 .pure, .op 2 .pure, .op 4 .pure, .op 6 .pure, .op 8 .pure, .op 10 .pure, .op 16 .pure, .op 17 .pure, .op 18 .pure, .op 19 .pure, .op 22 .pure, .op 23 .pure, .op 1 .load, .op 3 .pure, .op 5 .load, .op 7 .load, .op 9 .load, .op 11 .load, .op 12 .pure, .op 13 .pure, .op 14 .pure, .op 15 .pure, .op 20 .load, .op 21 .pure, .op 24 .load, .op 25 .pure, .op 26 .pure]) (.seq (.draw [.op 0 .pure, .op 3 .pure, .op 7 .pure, .op 1 .load, .op 4 .load, .op 8 .load, .op 2 .eff, .op 5 .eff, .op 6 .pure, .op 9 .eff, .op 10 .pure, .op 11 .pure]) (.seq .none (.seq (.draw [.op 0 .pure, .op 1 .pure, .op 2 .eff]) (.seq .none .none)))))))) .none)))))) (.seq (.seq .none (.block (.loop 3213091450801057215988444711004424246742393193135027666419712 [189] (.seq .none (.seq (.seq .none .none) (.seq (.block (.seq .none (.draw [.op 0 .pure, .op 1 .pure, .op 3 .pure, .op 4 .pure, .op 2 .load, .op 5 .load, .op 6 .pure, .op 7 .pure, .op 8 .eff]))) .none)))))) (.seq .none .none)))))))
theorem T27_ok : chkFn prog Tryd.f27 T27 = true := by kernel_rfl
def B27 (h_p0 k_p1 b_p2 : Value) (w : World) (K : Value → World → Prop) : Prop :=
  efv prog (Instr.box 79 h_p0) w fun h_0 w =>
  efv prog (Instr.alloc 79 true (.tuple #[])) w fun t_1 w =>
  efv prog (Instr.alloc 117 true (.tuple #[])) w fun w_2 w =>
  lp (fun σ w again_4 => pop σ fun t_3 σ => fin σ <|
    pvv prog (binOp .lss 3 t_3 (.int .i64 64)) w fun t_5 w =>
    cd t_5 (
      jn (fun σ w => fin σ <|
        pvv prog (binOp .add 3 t_3 (.int .i64 1)) w fun t_6 w =>
        again_4 [t_6] w) fun k_7 =>
      pvv prog (binOp .lss 3 t_3 (.int .i64 16)) w fun t_8 w =>
      cd t_8 (
        dr w fun w =>
        pvv prog (binOp .mul 3 (.int .i64 4) t_3) w fun t_9 w =>
        pvv prog (Instr.indexAt 25 b_p2 t_9) w fun t_10 w =>
        pvv prog (binOp .mul 3 (.int .i64 4) t_3) w fun t_11 w =>
        pvv prog (binOp .add 3 t_11 (.int .i64 1)) w fun t_12 w =>
        pvv prog (Instr.indexAt 25 b_p2 t_12) w fun t_13 w =>
        pvv prog (binOp .mul 3 (.int .i64 4) t_3) w fun t_14 w =>
        pvv prog (binOp .add 3 t_14 (.int .i64 2)) w fun t_15 w =>
        pvv prog (Instr.indexAt 25 b_p2 t_15) w fun t_16 w =>
        pvv prog (binOp .mul 3 (.int .i64 4) t_3) w fun t_17 w =>
        pvv prog (binOp .add 3 t_17 (.int .i64 3)) w fun t_18 w =>
        pvv prog (Instr.indexAt 25 b_p2 t_18) w fun t_19 w =>
        bindS (vN (Instr.loadAt 5 t_10)) fun m_21 => ldv prog (Instr.loadAt 5 t_10) w fun t_20 w =>
        pvv prog (convert 5 77 t_20) w fun t_22 w =>
        pvv prog (binOp .shl 77 t_22 (.int .u64 24)) w fun t_23 w =>
        bindS (vN (Instr.loadAt 5 t_13)) fun m_25 => ldv prog (Instr.loadAt 5 t_13) w fun t_24 w =>
        pvv prog (convert 5 77 t_24) w fun t_26 w =>
        pvv prog (binOp .shl 77 t_26 (.int .u64 16)) w fun t_27 w =>
        pvv prog (binOp .or 77 t_23 t_27) w fun t_28 w =>
        bindS (vN (Instr.loadAt 5 t_16)) fun m_30 => ldv prog (Instr.loadAt 5 t_16) w fun t_29 w =>
        pvv prog (convert 5 77 t_29) w fun t_31 w =>
        pvv prog (binOp .shl 77 t_31 (.int .u64 8)) w fun t_32 w =>
        pvv prog (binOp .or 77 t_28 t_32) w fun t_33 w =>
        bindS (vN (Instr.loadAt 5 t_19)) fun m_35 => ldv prog (Instr.loadAt 5 t_19) w fun t_34 w =>
        pvv prog (convert 5 77 t_34) w fun t_36 w =>
        pvv prog (binOp .or 77 t_33 t_36) w fun t_37 w =>
        pvv prog (Instr.indexAt 117 w_2 t_3) w fun t_38 w =>
        efu prog (Instr.storeAt 77 t_38 t_37) w fun u_39 w =>
        k_7 [] w) <|
      dr w fun w =>
      pvv prog (binOp .sub 3 t_3 (.int .i64 15)) w fun t_41 w =>
      pvv prog (Instr.indexAt 117 w_2 t_41) w fun t_42 w =>
      pvv prog (binOp .sub 3 t_3 (.int .i64 15)) w fun t_43 w =>
      pvv prog (Instr.indexAt 117 w_2 t_43) w fun t_44 w =>
      pvv prog (binOp .sub 3 t_3 (.int .i64 15)) w fun t_45 w =>
      pvv prog (Instr.indexAt 117 w_2 t_45) w fun t_46 w =>
      bindS (vN (Instr.loadAt 77 t_42)) fun m_48 => ldv prog (Instr.loadAt 77 t_42) w fun t_47 w =>
      bindS (vN (Instr.loadAt 77 t_44)) fun m_50 => ldv prog (Instr.loadAt 77 t_44) w fun t_49 w =>
      bindS (vN (Instr.loadAt 77 t_46)) fun m_52 => ldv prog (Instr.loadAt 77 t_46) w fun t_51 w =>
      pvv prog (binOp .shr 77 t_51 (.int .u64 3)) w fun t_53 w =>
      Calls prog 44 #[t_47, (.int .i64 (-7))] w (Ret fun t_54 w => stay prog none m_52 t_51 w <| stay prog none m_50 t_49 w <| 
      Calls prog 44 #[t_49, (.int .i64 (-18))] w (Ret fun t_55 w => stay prog none m_52 t_51 w <| stay prog none m_48 t_47 w <| 
      pvv prog (binOp .xor 77 t_54 t_55) w fun t_56 w =>
      pvv prog (binOp .xor 77 t_56 t_53) w fun t_57 w =>
      dr w fun w =>
      pvv prog (binOp .sub 3 t_3 (.int .i64 2)) w fun t_58 w =>
      pvv prog (Instr.indexAt 117 w_2 t_58) w fun t_59 w =>
      pvv prog (binOp .sub 3 t_3 (.int .i64 2)) w fun t_60 w =>
      pvv prog (Instr.indexAt 117 w_2 t_60) w fun t_61 w =>
      pvv prog (binOp .sub 3 t_3 (.int .i64 2)) w fun t_62 w =>
      pvv prog (Instr.indexAt 117 w_2 t_62) w fun t_63 w =>
      bindS (vN (Instr.loadAt 77 t_59)) fun m_65 => ldv prog (Instr.loadAt 77 t_59) w fun t_64 w =>
      bindS (vN (Instr.loadAt 77 t_61)) fun m_67 => ldv prog (Instr.loadAt 77 t_61) w fun t_66 w =>
      bindS (vN (Instr.loadAt 77 t_63)) fun m_69 => ldv prog (Instr.loadAt 77 t_63) w fun t_68 w =>
      pvv prog (binOp .shr 77 t_68 (.int .u64 10)) w fun t_70 w =>
      Calls prog 44 #[t_64, (.int .i64 (-17))] w (Ret fun t_71 w => stay prog none m_69 t_68 w <| stay prog none m_67 t_66 w <| 
      Calls prog 44 #[t_66, (.int .i64 (-19))] w (Ret fun t_72 w => stay prog none m_69 t_68 w <| stay prog none m_65 t_64 w <| 
      pvv prog (binOp .xor 77 t_71 t_72) w fun t_73 w =>
      pvv prog (binOp .xor 77 t_73 t_70) w fun t_74 w =>
      dr w fun w =>
      pvv prog (binOp .sub 3 t_3 (.int .i64 16)) w fun t_75 w =>
      pvv prog (Instr.indexAt 117 w_2 t_75) w fun t_76 w =>
      pvv prog (binOp .sub 3 t_3 (.int .i64 7)) w fun t_77 w =>
      pvv prog (Instr.indexAt 117 w_2 t_77) w fun t_78 w =>
      bindS (vN (Instr.loadAt 77 t_76)) fun m_80 => ldv prog (Instr.loadAt 77 t_76) w fun t_79 w =>
      pvv prog (binOp .add 77 t_79 t_57) w fun t_81 w =>
      bindS (vN (Instr.loadAt 77 t_78)) fun m_83 => ldv prog (Instr.loadAt 77 t_78) w fun t_82 w =>
      pvv prog (binOp .add 77 t_81 t_82) w fun t_84 w =>
      pvv prog (binOp .add 77 t_84 t_74) w fun t_85 w =>
      pvv prog (Instr.indexAt 117 w_2 t_3) w fun t_86 w =>
      efu prog (Instr.storeAt 77 t_86 t_85) w fun u_87 w =>
      k_7 [] w))))) <|
    ldv prog (Instr.loadAt 79 h_0) w fun t_93 w =>
    efv prog (Instr.alloc 79 true (.tuple #[])) w fun v_94 w =>
    efu prog (Instr.storeAt 79 v_94 t_93) w fun u_95 w =>
    lp (fun σ w again_97 => pop σ fun t_96 σ => fin σ <|
      pvv prog (binOp .lss 3 t_96 (.int .i64 64)) w fun t_98 w =>
      cd t_98 (
        dr w fun w =>
        pvv prog (Instr.indexAt 79 v_94 (.int .i64 4)) w fun t_99 w =>
        pvv prog (Instr.indexAt 79 v_94 (.int .i64 4)) w fun t_100 w =>
        pvv prog (Instr.indexAt 79 v_94 (.int .i64 4)) w fun t_101 w =>
        bindS (vN (Instr.loadAt 77 t_99)) fun m_103 => ldv prog (Instr.loadAt 77 t_99) w fun t_102 w =>
        bindS (vN (Instr.loadAt 77 t_100)) fun m_105 => ldv prog (Instr.loadAt 77 t_100) w fun t_104 w =>
        bindS (vN (Instr.loadAt 77 t_101)) fun m_107 => ldv prog (Instr.loadAt 77 t_101) w fun t_106 w =>
        Calls prog 44 #[t_102, (.int .i64 (-6))] w (Ret fun t_108 w => stay prog none m_107 t_106 w <| stay prog none m_105 t_104 w <| 
        Calls prog 44 #[t_104, (.int .i64 (-11))] w (Ret fun t_109 w => stay prog none m_107 t_106 w <| stay prog none m_103 t_102 w <| 
        pvv prog (binOp .xor 77 t_108 t_109) w fun t_110 w =>
        Calls prog 44 #[t_106, (.int .i64 (-25))] w (Ret fun t_111 w => stay prog none m_105 t_104 w <| stay prog none m_103 t_102 w <| 
        pvv prog (binOp .xor 77 t_110 t_111) w fun t_112 w =>
        dr w fun w =>
        pvv prog (Instr.indexAt 79 v_94 (.int .i64 7)) w fun t_113 w =>
        pvv prog (Instr.indexAt 79 v_94 (.int .i64 6)) w fun t_114 w =>
        pvv prog (Instr.indexAt 79 v_94 (.int .i64 4)) w fun t_115 w =>
        pvv prog (Instr.indexAt 79 v_94 (.int .i64 5)) w fun t_116 w =>
        pvv prog (Instr.indexAt 79 v_94 (.int .i64 6)) w fun t_117 w =>
        pv prog (oNil k_p1) w fun t_118 w =>
        pvv prog (Instr.indexAt 117 t_118 t_96) w fun t_119 w =>
        pvv prog (Instr.indexAt 117 w_2 t_96) w fun t_120 w =>
        bindS (vN (Instr.loadAt 77 t_113)) fun m_122 => ldv prog (Instr.loadAt 77 t_113) w fun t_121 w =>
        pvv prog (binOp .add 77 t_121 t_112) w fun t_123 w =>
        bindS (vN (Instr.loadAt 77 t_114)) fun m_125 => ldv prog (Instr.loadAt 77 t_114) w fun t_124 w =>
        bindS (vN (Instr.loadAt 77 t_115)) fun m_127 => ldv prog (Instr.loadAt 77 t_115) w fun t_126 w =>
        bindS (vN (Instr.loadAt 77 t_116)) fun m_129 => ldv prog (Instr.loadAt 77 t_116) w fun t_128 w =>
        bindS (vN (Instr.loadAt 77 t_117)) fun m_131 => ldv prog (Instr.loadAt 77 t_117) w fun t_130 w =>
        pvv prog (binOp .xor 77 t_128 t_130) w fun t_132 w =>
        pvv prog (binOp .and 77 t_126 t_132) w fun t_133 w =>
        pvv prog (binOp .xor 77 t_124 t_133) w fun t_134 w =>
        pvv prog (binOp .add 77 t_123 t_134) w fun t_135 w =>
        bindS (vN (Instr.loadAt 77 t_119)) fun m_137 => ldv prog (Instr.loadAt 77 t_119) w fun t_136 w =>
        pvv prog (binOp .add 77 t_135 t_136) w fun t_138 w =>
        bindS (vN (Instr.loadAt 77 t_120)) fun m_140 => ldv prog (Instr.loadAt 77 t_120) w fun t_139 w =>
        pvv prog (binOp .add 77 t_138 t_139) w fun t_141 w =>
        dr w fun w =>
        pvv prog (Instr.indexAt 79 v_94 (.int .i64 0)) w fun t_142 w =>
        pvv prog (Instr.indexAt 79 v_94 (.int .i64 0)) w fun t_143 w =>
        pvv prog (Instr.indexAt 79 v_94 (.int .i64 0)) w fun t_144 w =>
        bindS (vN (Instr.loadAt 77 t_142)) fun m_146 => ldv prog (Instr.loadAt 77 t_142) w fun t_145 w =>
        bindS (vN (Instr.loadAt 77 t_143)) fun m_148 => ldv prog (Instr.loadAt 77 t_143) w fun t_147 w =>
        bindS (vN (Instr.loadAt 77 t_144)) fun m_150 => ldv prog (Instr.loadAt 77 t_144) w fun t_149 w =>
        Calls prog 44 #[t_145, (.int .i64 (-2))] w (Ret fun t_151 w => stay prog none m_150 t_149 w <| stay prog none m_148 t_147 w <| 
        Calls prog 44 #[t_147, (.int .i64 (-13))] w (Ret fun t_152 w => stay prog none m_150 t_149 w <| stay prog none m_146 t_145 w <| 
        pvv prog (binOp .xor 77 t_151 t_152) w fun t_153 w =>
        Calls prog 44 #[t_149, (.int .i64 (-22))] w (Ret fun t_154 w => stay prog none m_148 t_147 w <| stay prog none m_146 t_145 w <| 
        pvv prog (binOp .xor 77 t_153 t_154) w fun t_155 w =>
        pvv prog (Instr.indexAt 79 v_94 (.int .i64 0)) w fun t_156 w =>
        ldv prog (Instr.loadAt 77 t_156) w fun t_157 w =>
        pvv prog (Instr.indexAt 79 v_94 (.int .i64 1)) w fun t_158 w =>
        ldv prog (Instr.loadAt 77 t_158) w fun t_159 w =>
        pvv prog (binOp .and 77 t_157 t_159) w fun t_160 w =>
        pvv prog (Instr.indexAt 79 v_94 (.int .i64 2)) w fun t_161 w =>
        ldv prog (Instr.loadAt 77 t_161) w fun t_162 w =>
        pvv prog (Instr.indexAt 79 v_94 (.int .i64 0)) w fun t_163 w =>
        ldv prog (Instr.loadAt 77 t_163) w fun t_164 w =>
        pvv prog (Instr.indexAt 79 v_94 (.int .i64 1)) w fun t_165 w =>
        ldv prog (Instr.loadAt 77 t_165) w fun t_166 w =>
        pvv prog (binOp .or 77 t_164 t_166) w fun t_167 w =>
        pvv prog (binOp .and 77 t_162 t_167) w fun t_168 w =>
        pvv prog (binOp .or 77 t_160 t_168) w fun t_169 w =>
        pvv prog (binOp .add 77 t_155 t_169) w fun t_170 w =>
        dr w fun w =>
        pvv prog (Instr.sliceAt 79 v_94 (some (.int .i64 1)) none none) w fun t_171 w =>
        pvv prog (Instr.sliceAt 79 v_94 none (some (.int .i64 7)) none) w fun t_172 w =>
        ef prog (oBi .copy #[119, 119] 3 #[false, false] #[t_171, t_172]) w fun t_173 w =>
        pvv prog (Instr.indexAt 79 v_94 (.int .i64 4)) w fun t_174 w =>
        ldv prog (Instr.loadAt 77 t_174) w fun t_175 w =>
        pvv prog (binOp .add 77 t_175 t_141) w fun t_176 w =>
        pvv prog (Instr.indexAt 79 v_94 (.int .i64 4)) w fun t_177 w =>
        efu prog (Instr.storeAt 77 t_177 t_176) w fun u_178 w =>
        pvv prog (binOp .add 77 t_141 t_170) w fun t_179 w =>
        pvv prog (Instr.indexAt 79 v_94 (.int .i64 0)) w fun t_180 w =>
        efu prog (Instr.storeAt 77 t_180 t_179) w fun u_181 w =>
        pvv prog (binOp .add 3 t_96 (.int .i64 1)) w fun t_182 w =>
        again_97 [t_182] w))))))) <|
      lp (fun σ w again_191 => pop σ fun t_190 σ => fin σ <|
        pvv prog (binOp .lss 3 t_190 (.int .i64 8)) w fun t_192 w =>
        cd t_192 (
          dr w fun w =>
          pvv prog (Instr.indexAt 79 h_0 t_190) w fun t_193 w =>
          pvv prog (Instr.indexAt 79 v_94 t_190) w fun t_194 w =>
          bindS (vN (Instr.loadAt 77 t_193)) fun m_196 => ldv prog (Instr.loadAt 77 t_193) w fun t_195 w =>
          bindS (vN (Instr.loadAt 77 t_194)) fun m_198 => ldv prog (Instr.loadAt 77 t_194) w fun t_197 w =>
          pvv prog (binOp .add 77 t_195 t_197) w fun t_199 w =>
          pvv prog (Instr.indexAt 79 h_0 t_190) w fun t_200 w =>
          efu prog (Instr.storeAt 77 t_200 t_199) w fun u_201 w =>
          pvv prog (binOp .add 3 t_190 (.int .i64 1)) w fun t_202 w =>
          again_191 [t_202] w) <|
        ldv prog (Instr.loadAt 79 h_0) w fun t_204 w =>
        efu prog (Instr.storeAt 79 t_1 t_204) w fun u_205 w =>
        ∃ r_206, (do loadVar 79 (← asAddr t_1)).run prog w = .ok r_206 w ∧ K r_206 w) [(.int .i64 0)] w) [(.int .i64 0)] w) [(.int .i64 0)] w
theorem B27_eq (h_p0 k_p1 b_p2 : Value) (w : World) (K : Value → World → Prop) : denFn prog Tryd.f27 T27 [h_p0, k_p1, b_p2] w K = B27 h_p0 k_p1 b_p2 w K := by kernel_rfl
theorem c27 {h_p0 k_p1 b_p2 : Value} {w : World} {K : Value → World → Prop} (h : B27 h_p0 k_p1 b_p2 w K) : Calls prog 27 #[h_p0, k_p1, b_p2] w (Ret K) :=
  denFn_calls Tryd.func27 T27_ok (Eq.mpr (B27_eq h_p0 k_p1 b_p2 w K) h)

-- 78 slices.insertionSortCmpFunc[holdfast/api.Consent]
def T78 : Ann := (.seq .none (.block (.loop 9007199254737664 [8] (.seq (.seq .none (.seq .none .none)) (.seq (.block (.seq .none (.block (.loop 9007199254479360 [9] (.seq (.seq (.draw [.op 0 .pure, .op 1 .pure, .op 2 .pure, .op 3 .pure, .op 4 .pure, .op 5 .pure, .op 6 .pure, .op 7 .pure, .op 9 .pure, .op 10 .pure, .op 11 .pure, .op 12 .pure, .op 8 .load, .op 13 .load, .op 14 .eff, .op 15 .pure, .op 16 .pure]) (.seq .none .none)) (.seq (.block (.draw [.op 0 .pure, .op 1 .pure, .op 2 .pure, .op 3 .pure, .op 4 .pure, .op 5 .pure, .op 6 .pure, .op 7 .pure, .op 8 .pure, .op 10 .pure, .op 11 .pure, .op 12 .pure, .op 9 .load, .op 13 .load, .op 14 .pure, .op 15 .eff, .op 16 .pure, .op 17 .eff])) .none)))))) .none)))))
theorem T78_ok : chkFn prog Tryd.f78 T78 = true := by kernel_rfl
def B78 (data_p0 a_p1 b_p2 cmp_p3 : Value) (w : World) (K : Value → World → Prop) : Prop :=
  pvv prog (binOp .add 3 a_p1 (.int .i64 1)) w fun t_0 w =>
  lp (fun σ w again_2 => pop σ fun i_1 σ => fin σ <|
    pvv prog (binOp .lss 3 i_1 b_p2) w fun t_3 w =>
    cd t_3 (
      lp (fun σ w again_5 => pop σ fun j_4 σ => fin σ <|
        dr w fun w =>
        pvv prog (binOp .gtr 3 j_4 a_p1) w fun t_6 w =>
        gate (some (t_6, true)) (fun K => K cmp_p3 w) w fun t_7 w =>
        gate (some (t_6, true)) (fun K => K data_p0 w) w fun t_8 w =>
        gate (some (t_6, true)) (fun K => K j_4 w) w fun t_9 w =>
        gate (some (t_6, true)) (fun K => pvv prog (Instr.indexAt 106 t_8 t_9) w K) w fun t_10 w =>
        gate (some (t_6, true)) (fun K => K data_p0 w) w fun t_11 w =>
        gate (some (t_6, true)) (fun K => K j_4 w) w fun t_12 w =>
        gate (some (t_6, true)) (fun K => pvv prog (binOp .sub 3 t_12 (.int .i64 1)) w K) w fun t_13 w =>
        gate (some (t_6, true)) (fun K => pvv prog (Instr.indexAt 106 t_11 t_13) w K) w fun t_14 w =>
        bindS (vN (Instr.loadAt 53 t_10)) fun m_16 => gate (some (t_6, true)) (fun K => ldv prog (Instr.loadAt 53 t_10) w K) w fun t_15 w =>
        bindS (vN (Instr.loadAt 53 t_14)) fun m_18 => gate (some (t_6, true)) (fun K => ldv prog (Instr.loadAt 53 t_14) w K) w fun t_17 w =>
        gate (some (t_6, true)) (fun K => ef prog (oCall t_7 #[t_15, t_17]) w fun s_38 w => K s_38 w) w fun t_19 w =>
        gate (some (t_6, true)) (fun K => pvv prog (binOp .lss 3 t_19 (.int .i64 0)) w K) w fun t_20 w =>
        pv prog (oPick t_6 t_20 (.bool false)) w fun t_21 w =>
        cd t_21 (
          dr w fun w =>
          pvv prog (binOp .sub 3 j_4 (.int .i64 1)) w fun t_22 w =>
          pvv prog (binOp .sub 3 j_4 (.int .i64 1)) w fun t_23 w =>
          pvv prog (Instr.indexAt 106 data_p0 t_23) w fun t_24 w =>
          pvv prog (Instr.indexAt 106 data_p0 j_4) w fun t_25 w =>
          bindS (vN (Instr.loadAt 53 t_24)) fun m_27 => ldv prog (Instr.loadAt 53 t_24) w fun t_26 w =>
          bindS (vN (Instr.loadAt 53 t_25)) fun m_29 => ldv prog (Instr.loadAt 53 t_25) w fun t_28 w =>
          pvv prog (Instr.indexAt 106 data_p0 j_4) w fun t_30 w =>
          efu prog (Instr.storeAt 53 t_30 t_26) w fun u_31 w =>
          pvv prog (Instr.indexAt 106 data_p0 t_22) w fun t_32 w =>
          efu prog (Instr.storeAt 53 t_32 t_28) w fun u_33 w =>
          pvv prog (binOp .sub 3 j_4 (.int .i64 1)) w fun t_34 w =>
          again_5 [t_34] w) <|
        pvv prog (binOp .add 3 i_1 (.int .i64 1)) w fun t_37 w =>
        again_2 [t_37] w) [i_1] w) <|
    K (.tuple #[]) w) [t_0] w
theorem B78_eq (data_p0 a_p1 b_p2 cmp_p3 : Value) (w : World) (K : Value → World → Prop) : denFn prog Tryd.f78 T78 [data_p0, a_p1, b_p2, cmp_p3] w K = B78 data_p0 a_p1 b_p2 cmp_p3 w K := by kernel_rfl
theorem c78 {data_p0 a_p1 b_p2 cmp_p3 : Value} {w : World} {K : Value → World → Prop} (h : B78 data_p0 a_p1 b_p2 cmp_p3 w K) : Calls prog 78 #[data_p0, a_p1, b_p2, cmp_p3] w (Ret K) :=
  denFn_calls Tryd.func78 T78_ok (Eq.mpr (B78_eq data_p0 a_p1 b_p2 cmp_p3 w K) h)

-- 87 math/bits.Len64
def T87 : Ann := (.seq .none (.meet 125 [0, 2] (.seq .none (.seq (.seq .none .none) .none)) (.meet 8069 [0, 2] (.seq .none (.seq (.seq .none .none) .none)) (.meet 516101 [0, 2] (.seq .none (.seq (.seq .none .none) .none)) (.seq .none .none)))))
theorem T87_ok : chkFn prog Tryd.f87 T87 = true := by kernel_rfl
def B87 (x_p0 : Value) (w : World) (K : Value → World → Prop) : Prop :=
  jn (fun σ w => pop σ fun x_0 σ => pop σ fun n_1 σ => fin σ <|
    jn (fun σ w => pop σ fun x_2 σ => pop σ fun n_3 σ => fin σ <|
      jn (fun σ w => pop σ fun x_4 σ => pop σ fun n_5 σ => fin σ <|
        pvv prog (convert 35 5 x_4) w fun t_6 w =>
        pvv prog (Instr.index 9 (.string ⟨#[0, 1, 2, 2, 3, 3, 3, 3, 4, 4, 4, 4, 4, 4, 4, 4, 5, 5, 5, 5, 5, 5, 5, 5, 5, 5, 5, 5, 5, 5, 5, 5, 6, 6, 6, 6, 6, 6, 6, 6, 6, 6, 6, 6, 6, 6, 6, 6, 6, 6, 6, 6, 6, 6, 6, 6, 6, 6, 6, 6, 6, 6, 6, 6, 7, 7, 7, 7, 7, 7, 7, 7, 7, 7, 7, 7, 7, 7, 7, 7, 7, 7, 7, 7, 7, 7, 7, 7, 7, 7, 7, 7, 7, 7, 7, 7, 7, 7, 7, 7, 7, 7, 7, 7, 7, 7, 7, 7, 7, 7, 7, 7, 7, 7, 7, 7, 7, 7, 7, 7, 7, 7, 7, 7, 7, 7, 7, 7, 8, 8, 8, 8, 8, 8, 8, 8, 8, 8, 8, 8, 8, 8, 8, 8, 8, 8, 8, 8, 8, 8, 8, 8, 8, 8, 8, 8, 8, 8, 8, 8, 8, 8, 8, 8, 8, 8, 8, 8, 8, 8, 8, 8, 8, 8, 8, 8, 8, 8, 8, 8, 8, 8, 8, 8, 8, 8, 8, 8, 8, 8, 8, 8, 8, 8, 8, 8, 8, 8, 8, 8, 8, 8, 8, 8, 8, 8, 8, 8, 8, 8, 8, 8, 8, 8, 8, 8, 8, 8, 8, 8, 8, 8, 8, 8, 8, 8, 8, 8, 8, 8, 8, 8, 8, 8, 8, 8, 8, 8, 8, 8, 8, 8, 8, 8, 8, 8, 8, 8, 8, 8, 8, 8, 8, 8, 8, 8]⟩) t_6) w fun t_7 w =>
        pvv prog (convert 5 3 t_7) w fun t_8 w =>
        pvv prog (binOp .add 3 n_5 t_8) w fun t_9 w =>
        K t_9 w) fun k_10 =>
      pvv prog (binOp .geq 35 x_2 (.int .u64 256)) w fun t_11 w =>
      cd t_11 (
        pvv prog (binOp .shr 35 x_2 (.int .u64 8)) w fun t_12 w =>
        pvv prog (binOp .add 3 n_3 (.int .i64 8)) w fun t_13 w =>
        k_10 [t_12, t_13] w) <|
      k_10 [x_2, n_3] w) fun k_14 =>
    pvv prog (binOp .geq 35 x_0 (.int .u64 65536)) w fun t_15 w =>
    cd t_15 (
      pvv prog (binOp .shr 35 x_0 (.int .u64 16)) w fun t_16 w =>
      pvv prog (binOp .add 3 n_1 (.int .i64 16)) w fun t_17 w =>
      k_14 [t_16, t_17] w) <|
    k_14 [x_0, n_1] w) fun k_18 =>
  pvv prog (binOp .geq 35 x_p0 (.int .u64 4294967296)) w fun t_19 w =>
  cd t_19 (
    pvv prog (binOp .shr 35 x_p0 (.int .u64 32)) w fun t_20 w =>
    k_18 [t_20, (.int .i64 32)] w) <|
  k_18 [x_p0, (.int .i64 0)] w
theorem B87_eq (x_p0 : Value) (w : World) (K : Value → World → Prop) : denFn prog Tryd.f87 T87 [x_p0] w K = B87 x_p0 w K := by kernel_rfl
theorem c87 {x_p0 : Value} {w : World} {K : Value → World → Prop} (h : B87 x_p0 w K) : Calls prog 87 #[x_p0] w (Ret K) :=
  denFn_calls Tryd.func87 T87_ok (Eq.mpr (B87_eq x_p0 w K) h)

-- 46 strings.Trim
def T46 : Ann := (.seq .none (.seq (.seq .none (.seq (.seq .none .none) .none)) (.seq (.seq .none (.seq (.seq (.draw [.op 0 .pure, .op 1 .pure, .op 2 .pure, .op 4 .pure, .op 5 .pure, .op 3 .eff, .op 6 .eff, .op 7 .pure]) .none) .none)) (.seq (.seq .none (.seq .none (.seq (.seq .none .none) .none))) (.seq .none .none)))))
theorem T46_ok : chkFn prog Tryd.f46 T46 = true := by kernel_rfl
def B46 (s_p0 cutset_p1 : Value) (w : World) (K : Value → World → Prop) : Prop :=
  pvv prog (oEq .eql 9 (.tmp 7) (.const (.string ⟨#[]⟩)) s_p0 (.string ⟨#[]⟩)) w fun t_0 w =>
  gate (some (t_0, false)) (fun K => K cutset_p1 w) w fun t_1 w =>
  gate (some (t_0, false)) (fun K => pvv prog (oEq .eql 9 (.tmp 10) (.const (.string ⟨#[]⟩)) t_1 (.string ⟨#[]⟩)) w K) w fun t_2 w =>
  pv prog (oPick t_0 (.bool true) t_2) w fun t_3 w =>
  cd t_3 (
    K s_p0 w) <|
  pv prog (oBi .len #[9] 3 #[false] #[cutset_p1]) w fun t_4 w =>
  pvv prog (oEq .eql 3 (.tmp 15) (.const (.int .i64 1)) t_4 (.int .i64 1)) w fun t_5 w =>
  gate (some (t_5, true)) (fun K => K cutset_p1 w) w fun t_6 w =>
  gate (some (t_5, true)) (fun K => pvv prog (Instr.index 9 t_6 (.int .i64 0)) w K) w fun t_7 w =>
  gate (some (t_5, true)) (fun K => pvv prog (binOp .lss 5 t_7 (.int .u8 128)) w K) w fun t_8 w =>
  pv prog (oPick t_5 t_8 (.bool false)) w fun t_9 w =>
  cd t_9 (
    dr w fun w =>
    pvv prog (Instr.index 9 cutset_p1 (.int .i64 0)) w fun t_10 w =>
    pvv prog (Instr.index 9 cutset_p1 (.int .i64 0)) w fun t_11 w =>
    Calls prog 58 #[s_p0, t_10] w (Ret fun t_12 w =>
    Calls prog 57 #[t_12, t_11] w (Ret fun t_13 w =>
    K t_13 w))) <|
  Calls prog 59 #[cutset_p1] w (Ret fun t_16 w =>
  pvv prog (Instr.extract t_16 0) w fun t_17 w =>
  pvv prog (Instr.extract t_16 1) w fun t_18 w =>
  efv prog (Instr.alloc 137 true (.tuple #[])) w fun as_19 w =>
  efu prog (Instr.storeAt 137 as_19 t_17) w fun u_20 w =>
  cd t_18 (
    Calls prog 61 #[s_p0, as_19] w (Ret fun t_21 w =>
    Calls prog 60 #[t_21, as_19] w (Ret fun t_22 w =>
    K t_22 w))) <|
  Calls prog 63 #[s_p0, cutset_p1] w (Ret fun t_23 w =>
  Calls prog 62 #[t_23, cutset_p1] w (Ret fun t_24 w =>
  K t_24 w)))
theorem B46_eq (s_p0 cutset_p1 : Value) (w : World) (K : Value → World → Prop) : denFn prog Tryd.f46 T46 [s_p0, cutset_p1] w K = B46 s_p0 cutset_p1 w K := by kernel_rfl
theorem c46 {s_p0 cutset_p1 : Value} {w : World} {K : Value → World → Prop} (h : B46 s_p0 cutset_p1 w K) : Calls prog 46 #[s_p0, cutset_p1] w (Ret K) :=
  denFn_calls Tryd.func46 T46_ok (Eq.mpr (B46_eq s_p0 cutset_p1 w K) h)

-- 36 (*holdfast/grant.Store).Consents
def T36 : Ann := (.seq .none (.seq (.seq .none (.seq (.seq .none .none) .none)) (.seq .none (.seq (.seq .none (.block (.loop 4294934752 [5] (.seq .none (.seq (.seq .none .none) (.block (.seq .none (.seq .none (.seq .none .none))))))))) (.seq .none (.seq .none .none))))))
theorem T36_ok : chkFn prog Tryd.f36 T36 = true := by kernel_rfl
def B36 (s_p0 o_p1 : Value) (w : World) (K : Value → World → Prop) : Prop :=
  efv prog (Instr.box 46 o_p1) w fun o_0 w =>
  pvv prog (oEq .eql 41 (.tmp 8) (.const (.pointer none)) s_p0 (.pointer none)) w fun t_1 w =>
  cd t_1 (
    K (.slice none 0 0) w) <|
  pv prog (oNil s_p0) w fun t_2 w =>
  pvv prog (Instr.fieldAt 94 t_2 1) w fun t_3 w =>
  ldv prog (Instr.loadAt 92 t_3) w fun t_4 w =>
  efv prog (Instr.range 92 t_4) w fun t_5 w =>
  lp (fun σ w again_7 => pop σ fun out_6 σ => fin σ <|
    efv prog (Instr.next t_5 false 0) w fun t_8 w =>
    pvv prog (Instr.extract t_8 0) w fun t_9 w =>
    cd t_9 (
      efv prog (Instr.entry t_5) w fun t_10 w =>
      pvv prog (Instr.extract t_10 0) w fun t_11 w =>
      pvv prog (Instr.extract t_10 1) w fun t_12 w =>
      efv prog (Instr.alloc 104 true (.tuple #[])) w fun u_13 w =>
      efu prog (Instr.storeAt 104 u_13 t_11) w fun u_14 w =>
      pvv prog (Instr.fieldAt 104 u_13 0) w fun t_15 w =>
      ldv prog (Instr.loadAt 46 t_15) w fun t_16 w =>
      ldv prog (Instr.loadAt 46 o_0) w fun t_17 w =>
      pvv prog (oEq .eql 46 (.tmp 21) (.tmp 22) t_16 t_17) w fun t_18 w =>
      cd t_18 (
        ldv prog (Instr.loadAt 46 o_0) w fun t_19 w =>
        pvv prog (Instr.fieldAt 104 u_13 1) w fun t_20 w =>
        ldv prog (Instr.loadAt 9 t_20) w fun t_21 w =>
        pvv prog (Instr.build 53 #[(0, t_19), (1, t_21), (2, t_12)]) w fun t_22 w =>
        efv prog (Instr.buildSlice 106 1 #[(0, t_22)]) w fun t_23 w =>
        ef prog (oBi .append #[106, 106] 106 #[false, false] #[out_6, t_23]) w fun t_24 w =>
        again_7 [t_24] w) <|
      again_7 [out_6] w) <|
    Calls prog 47 #[out_6, (.func (.func 48) #[] #[])] w (Ret fun t_25 w =>
    K out_6 w)) [(.slice none 0 0)] w
theorem B36_eq (s_p0 o_p1 : Value) (w : World) (K : Value → World → Prop) : denFn prog Tryd.f36 T36 [s_p0, o_p1] w K = B36 s_p0 o_p1 w K := by kernel_rfl
theorem c36 {s_p0 o_p1 : Value} {w : World} {K : Value → World → Prop} (h : B36 s_p0 o_p1 w K) : Calls prog 36 #[s_p0, o_p1] w (Ret K) :=
  denFn_calls Tryd.func36 T36_ok (Eq.mpr (B36_eq s_p0 o_p1 w K) h)

-- 26 holdfast/hash.rounds
def T26 : Ann := (.seq .none (.seq .none .none))
theorem T26_ok : chkFn prog Tryd.f26 T26 = true := by kernel_rfl
def B26 (w : World) (K : Value → World → Prop) : Prop :=
  pvv prog (Instr.build 117 #[(0, (.int .u32 1116352408)), (1, (.int .u32 1899447441)), (2, (.int .u32 3049323471)), (3, (.int .u32 3921009573)), (4, (.int .u32 961987163)), (5, (.int .u32 1508970993)), (6, (.int .u32 2453635748)), (7, (.int .u32 2870763221)), (8, (.int .u32 3624381080)), (9, (.int .u32 310598401)), (10, (.int .u32 607225278)), (11, (.int .u32 1426881987)), (12, (.int .u32 1925078388)), (13, (.int .u32 2162078206)), (14, (.int .u32 2614888103)), (15, (.int .u32 3248222580)), (16, (.int .u32 3835390401)), (17, (.int .u32 4022224774)), (18, (.int .u32 264347078)), (19, (.int .u32 604807628)), (20, (.int .u32 770255983)), (21, (.int .u32 1249150122)), (22, (.int .u32 1555081692)), (23, (.int .u32 1996064986)), (24, (.int .u32 2554220882)), (25, (.int .u32 2821834349)), (26, (.int .u32 2952996808)), (27, (.int .u32 3210313671)), (28, (.int .u32 3336571891)), (29, (.int .u32 3584528711)), (30, (.int .u32 113926993)), (31, (.int .u32 338241895)), (32, (.int .u32 666307205)), (33, (.int .u32 773529912)), (34, (.int .u32 1294757372)), (35, (.int .u32 1396182291)), (36, (.int .u32 1695183700)), (37, (.int .u32 1986661051)), (38, (.int .u32 2177026350)), (39, (.int .u32 2456956037)), (40, (.int .u32 2730485921)), (41, (.int .u32 2820302411)), (42, (.int .u32 3259730800)), (43, (.int .u32 3345764771)), (44, (.int .u32 3516065817)), (45, (.int .u32 3600352804)), (46, (.int .u32 4094571909)), (47, (.int .u32 275423344)), (48, (.int .u32 430227734)), (49, (.int .u32 506948616)), (50, (.int .u32 659060556)), (51, (.int .u32 883997877)), (52, (.int .u32 958139571)), (53, (.int .u32 1322822218)), (54, (.int .u32 1537002063)), (55, (.int .u32 1747873779)), (56, (.int .u32 1955562222)), (57, (.int .u32 2024104815)), (58, (.int .u32 2227730452)), (59, (.int .u32 2361852424)), (60, (.int .u32 2428436474)), (61, (.int .u32 2756734187)), (62, (.int .u32 3204031479)), (63, (.int .u32 3329325298))]) w fun t_0 w =>
  efv prog (Instr.box 117 t_0) w fun t_1 w =>
  K t_1 w
theorem B26_eq (w : World) (K : Value → World → Prop) : denFn prog Tryd.f26 T26 [] w K = B26  w K := by kernel_rfl
theorem c26 {w : World} {K : Value → World → Prop} (h : B26  w K) : Calls prog 26 #[] w (Ret K) :=
  denFn_calls Tryd.func26 T26_ok (Eq.mpr (B26_eq  w K) h)

-- 114 internal/strconv.small
def T114 : Ann := (.seq .none (.seq (.seq .none (.seq (.seq .none .none) .none)) (.seq .none .none)))
theorem T114_ok : chkFn prog Tryd.f114 T114 = true := by kernel_rfl
def B114 (i_p0 : Value) (w : World) (K : Value → World → Prop) : Prop :=
  pvv prog (binOp .lss 3 i_p0 (.int .i64 10)) w fun t_0 w =>
  cd t_0 (
    pvv prog (binOp .add 3 i_p0 (.int .i64 1)) w fun t_1 w =>
    pvv prog (Instr.sliceAt 9 (.string ⟨#[48, 49, 50, 51, 52, 53, 54, 55, 56, 57, 97, 98, 99, 100, 101, 102, 103, 104, 105, 106, 107, 108, 109, 110, 111, 112, 113, 114, 115, 116, 117, 118, 119, 120, 121, 122]⟩) (some i_p0) (some t_1) none) w fun t_2 w =>
    K t_2 w) <|
  pvv prog (binOp .mul 3 i_p0 (.int .i64 2)) w fun t_3 w =>
  pvv prog (binOp .mul 3 i_p0 (.int .i64 2)) w fun t_4 w =>
  pvv prog (binOp .add 3 t_4 (.int .i64 2)) w fun t_5 w =>
  pvv prog (Instr.sliceAt 9 (.string ⟨#[48, 48, 48, 49, 48, 50, 48, 51, 48, 52, 48, 53, 48, 54, 48, 55, 48, 56, 48, 57, 49, 48, 49, 49, 49, 50, 49, 51, 49, 52, 49, 53, 49, 54, 49, 55, 49, 56, 49, 57, 50, 48, 50, 49, 50, 50, 50, 51, 50, 52, 50, 53, 50, 54, 50, 55, 50, 56, 50, 57, 51, 48, 51, 49, 51, 50, 51, 51, 51, 52, 51, 53, 51, 54, 51, 55, 51, 56, 51, 57, 52, 48, 52, 49, 52, 50, 52, 51, 52, 52, 52, 53, 52, 54, 52, 55, 52, 56, 52, 57, 53, 48, 53, 49, 53, 50, 53, 51, 53, 52, 53, 53, 53, 54, 53, 55, 53, 56, 53, 57, 54, 48, 54, 49, 54, 50, 54, 51, 54, 52, 54, 53, 54, 54, 54, 55, 54, 56, 54, 57, 55, 48, 55, 49, 55, 50, 55, 51, 55, 52, 55, 53, 55, 54, 55, 55, 55, 56, 55, 57, 56, 48, 56, 49, 56, 50, 56, 51, 56, 52, 56, 53, 56, 54, 56, 55, 56, 56, 56, 57, 57, 48, 57, 49, 57, 50, 57, 51, 57, 52, 57, 53, 57, 54, 57, 55, 57, 56, 57, 57]⟩) (some t_3) (some t_5) none) w fun t_6 w =>
  K t_6 w
theorem B114_eq (i_p0 : Value) (w : World) (K : Value → World → Prop) : denFn prog Tryd.f114 T114 [i_p0] w K = B114 i_p0 w K := by kernel_rfl
theorem c114 {i_p0 : Value} {w : World} {K : Value → World → Prop} (h : B114 i_p0 w K) : Calls prog 114 #[i_p0] w (Ret K) :=
  denFn_calls Tryd.func114 T114_ok (Eq.mpr (B114_eq i_p0 w K) h)

-- 58 strings.trimRightByte
def T58 : Ann := (.seq .none (.seq (.block (.loop 4194273 [0] (.seq (.seq .none (.seq .none .none)) (.block .none)))) (.seq .none .none)))
theorem T58_ok : chkFn prog Tryd.f58 T58 = true := by kernel_rfl
def B58 (s_p0 c_p1 : Value) (w : World) (K : Value → World → Prop) : Prop :=
  lp (fun σ w again_1 => pop σ fun s_0 σ => fin σ <|
    pv prog (oBi .len #[9] 3 #[false] #[s_0]) w fun t_2 w =>
    pvv prog (binOp .gtr 3 t_2 (.int .i64 0)) w fun t_3 w =>
    gate (some (t_3, true)) (fun K => K s_0 w) w fun t_4 w =>
    gate (some (t_3, true)) (fun K => K s_0 w) w fun t_5 w =>
    gate (some (t_3, true)) (fun K => pv prog (oBi .len #[9] 3 #[false] #[t_5]) w K) w fun t_6 w =>
    gate (some (t_3, true)) (fun K => pvv prog (binOp .sub 3 t_6 (.int .i64 1)) w K) w fun t_7 w =>
    gate (some (t_3, true)) (fun K => pvv prog (Instr.index 9 t_4 t_7) w K) w fun t_8 w =>
    gate (some (t_3, true)) (fun K => K c_p1 w) w fun t_9 w =>
    gate (some (t_3, true)) (fun K => pvv prog (oEq .eql 5 (.tmp 13) (.tmp 14) t_8 t_9) w K) w fun t_10 w =>
    pv prog (oPick t_3 t_10 (.bool false)) w fun t_11 w =>
    cd t_11 (
      pv prog (oBi .len #[9] 3 #[false] #[s_0]) w fun t_12 w =>
      pvv prog (binOp .sub 3 t_12 (.int .i64 1)) w fun t_13 w =>
      pvv prog (Instr.sliceAt 9 s_0 none (some t_13) none) w fun t_14 w =>
      again_1 [t_14] w) <|
    K s_0 w) [s_p0] w
theorem B58_eq (s_p0 c_p1 : Value) (w : World) (K : Value → World → Prop) : denFn prog Tryd.f58 T58 [s_p0, c_p1] w K = B58 s_p0 c_p1 w K := by kernel_rfl
theorem c58 {s_p0 c_p1 : Value} {w : World} {K : Value → World → Prop} (h : B58 s_p0 c_p1 w K) : Calls prog 58 #[s_p0, c_p1] w (Ret K) :=
  denFn_calls Tryd.func58 T58_ok (Eq.mpr (B58_eq s_p0 c_p1 w K) h)

-- 33 holdfast/codec.IsName
def T33 : Ann := (.seq .none (.seq .none .none))
theorem T33_ok : chkFn prog Tryd.f33 T33 = true := by kernel_rfl
def B33 (s_p0 : Value) (w : World) (K : Value → World → Prop) : Prop :=
  pvv prog (oEq .neq 9 (.tmp 3) (.const (.string ⟨#[]⟩)) s_p0 (.string ⟨#[]⟩)) w fun t_0 w =>
  gate (some (t_0, true)) (fun K => K s_p0 w) w fun t_1 w =>
  gate (some (t_0, true)) (fun K => pv prog (oBi .len #[9] 3 #[false] #[t_1]) w K) w fun t_2 w =>
  gate (some (t_0, true)) (fun K => pvv prog (binOp .leq 3 t_2 (.int .i64 9)) w K) w fun t_3 w =>
  pv prog (oPick t_0 t_3 (.bool false)) w fun t_4 w =>
  gate (some (t_4, true)) (fun K => K s_p0 w) w fun t_5 w =>
  gate (some (t_4, true)) (fun K => Calls prog 46 #[t_5, (.string ⟨#[97, 98, 99, 100, 101, 102, 103, 104, 105, 106, 107, 108, 109, 110, 111, 112, 113, 114, 115, 116, 117, 118, 119, 120, 121, 122, 48, 49, 50, 51, 52, 53, 54, 55, 56, 57, 45]⟩)] w (Ret K)) w fun t_6 w =>
  gate (some (t_4, true)) (fun K => pvv prog (oEq .eql 9 (.tmp 12) (.const (.string ⟨#[]⟩)) t_6 (.string ⟨#[]⟩)) w K) w fun t_7 w =>
  pv prog (oPick t_4 t_7 (.bool false)) w fun t_8 w =>
  K t_8 w
theorem B33_eq (s_p0 : Value) (w : World) (K : Value → World → Prop) : denFn prog Tryd.f33 T33 [s_p0] w K = B33 s_p0 w K := by kernel_rfl
theorem c33 {s_p0 : Value} {w : World} {K : Value → World → Prop} (h : B33 s_p0 w K) : Calls prog 33 #[s_p0] w (Ret K) :=
  denFn_calls Tryd.func33 T33_ok (Eq.mpr (B33_eq s_p0 w K) h)

-- 38 (*holdfast/grant.Store).Drop$1
def T38 : Ann := (.seq .none (.seq .none .none))
theorem T38_ok : chkFn prog Tryd.f38 T38 = true := by kernel_rfl
def B38 (u_p0 x_p1 x_p2 x_p3 : Value) (w : World) (K : Value → World → Prop) : Prop :=
  efv prog (Instr.box 104 u_p0) w fun u_0 w =>
  pvv prog (Instr.fieldAt 104 u_0 0) w fun t_1 w =>
  pvv prog (Instr.fieldAt 46 t_1 0) w fun t_2 w =>
  ldv prog (Instr.loadAt 9 t_2) w fun t_3 w =>
  ldv prog (Instr.loadAt 9 x_p2) w fun t_4 w =>
  pvv prog (oEq .eql 9 (.tmp 9) (.tmp 10) t_3 t_4) w fun t_5 w =>
  gate (some (t_5, true)) (fun K => pvv prog (Instr.fieldAt 104 u_0 1) w K) w fun t_6 w =>
  gate (some (t_5, true)) (fun K => ldv prog (Instr.loadAt 9 t_6) w K) w fun t_7 w =>
  gate (some (t_5, true)) (fun K => ldv prog (Instr.loadAt 9 x_p3) w K) w fun t_8 w =>
  gate (some (t_5, true)) (fun K => pvv prog (oEq .eql 9 (.tmp 14) (.tmp 15) t_7 t_8) w K) w fun t_9 w =>
  pv prog (oPick t_5 t_9 (.bool false)) w fun t_10 w =>
  K t_10 w
theorem B38_eq (u_p0 x_p1 x_p2 x_p3 : Value) (w : World) (K : Value → World → Prop) : denFn prog Tryd.f38 T38 [u_p0, x_p1, x_p2, x_p3] w K = B38 u_p0 x_p1 x_p2 x_p3 w K := by kernel_rfl
theorem c38 {u_p0 x_p1 x_p2 x_p3 : Value} {w : World} {K : Value → World → Prop} (h : B38 u_p0 x_p1 x_p2 x_p3 w K) : Calls prog 38 #[u_p0, x_p1, x_p2, x_p3] w (Ret K) :=
  denFn_calls Tryd.func38 T38_ok (Eq.mpr (B38_eq u_p0 x_p1 x_p2 x_p3 w K) h)

-- 72 unicode/utf8.DecodeRuneInString
def T72 : Ann := (.seq .none (.seq (.seq .none (.seq (.seq .none .none) .none)) .none))
theorem T72_ok : chkFn prog Tryd.f72 T72 = true := by kernel_rfl
def B72 (s_p0 : Value) (w : World) (K : Value → World → Prop) : Prop :=
  pvv prog (oEq .neq 9 (.tmp 4) (.const (.string ⟨#[]⟩)) s_p0 (.string ⟨#[]⟩)) w fun t_0 w =>
  gate (some (t_0, true)) (fun K => K s_p0 w) w fun t_1 w =>
  gate (some (t_0, true)) (fun K => pvv prog (Instr.index 9 t_1 (.int .i64 0)) w K) w fun t_2 w =>
  gate (some (t_0, true)) (fun K => pvv prog (binOp .lss 5 t_2 (.int .u8 128)) w K) w fun t_3 w =>
  pv prog (oPick t_0 t_3 (.bool false)) w fun t_4 w =>
  cd t_4 (
    pvv prog (Instr.index 9 s_p0 (.int .i64 0)) w fun t_5 w =>
    pvv prog (convert 5 21 t_5) w fun t_6 w =>
    K (.tuple #[t_6, (.int .i64 1)]) w) <|
  Calls prog 94 #[s_p0] w (Ret fun t_7 w =>
  pvv prog (Instr.extract t_7 0) w fun t_8 w =>
  pvv prog (Instr.extract t_7 1) w fun t_9 w =>
  K (.tuple #[t_8, t_9]) w)
theorem B72_eq (s_p0 : Value) (w : World) (K : Value → World → Prop) : denFn prog Tryd.f72 T72 [s_p0] w K = B72 s_p0 w K := by kernel_rfl
theorem c72 {s_p0 : Value} {w : World} {K : Value → World → Prop} (h : B72 s_p0 w K) : Calls prog 72 #[s_p0] w (Ret K) :=
  denFn_calls Tryd.func72 T72_ok (Eq.mpr (B72_eq s_p0 w K) h)

-- 125 math/bits.TrailingZeros64
def T125 : Ann := (.seq .none (.seq (.seq .none (.seq (.seq .none .none) .none)) (.seq .none .none)))
theorem T125_ok : chkFn prog Tryd.f125 T125 = true := by kernel_rfl
def B125 (x_p0 : Value) (w : World) (K : Value → World → Prop) : Prop :=
  pvv prog (oEq .eql 35 (.tmp 3) (.const (.int .u64 0)) x_p0 (.int .u64 0)) w fun t_0 w =>
  cd t_0 (
    K (.int .i64 64) w) <|
  pvv prog (Op.unary .neg x_p0) w fun t_1 w =>
  pvv prog (binOp .and 35 x_p0 t_1) w fun t_2 w =>
  pvv prog (binOp .mul 35 t_2 (.int .u64 285870213051353865)) w fun t_3 w =>
  pvv prog (binOp .shr 35 t_3 (.int .u64 58)) w fun t_4 w =>
  pvv prog (Instr.indexAt 90 (.pointer (some ⟨5, 0, none⟩)) t_4) w fun t_5 w =>
  ldv prog (Instr.loadAt 5 t_5) w fun t_6 w =>
  pvv prog (convert 5 3 t_6) w fun t_7 w =>
  K t_7 w
theorem B125_eq (x_p0 : Value) (w : World) (K : Value → World → Prop) : denFn prog Tryd.f125 T125 [x_p0] w K = B125 x_p0 w K := by kernel_rfl
theorem c125 {x_p0 : Value} {w : World} {K : Value → World → Prop} (h : B125 x_p0 w K) : Calls prog 125 #[x_p0] w (Ret K) :=
  denFn_calls Tryd.func125 T125_ok (Eq.mpr (B125_eq x_p0 w K) h)

-- 48 (*holdfast/grant.Store).Consents$1
def T48 : Ann := (.seq .none (.seq .none .none))
theorem T48_ok : chkFn prog Tryd.f48 T48 = true := by kernel_rfl
def B48 (a_p0 b_p1 : Value) (w : World) (K : Value → World → Prop) : Prop :=
  efv prog (Instr.box 53 a_p0) w fun a_0 w =>
  efv prog (Instr.box 53 b_p1) w fun b_1 w =>
  pvv prog (Instr.fieldAt 53 a_0 1) w fun t_2 w =>
  ldv prog (Instr.loadAt 9 t_2) w fun t_3 w =>
  pvv prog (Instr.fieldAt 53 b_1 1) w fun t_4 w =>
  ldv prog (Instr.loadAt 9 t_4) w fun t_5 w =>
  Calls prog 49 #[t_3, t_5] w (Ret fun t_6 w =>
  K t_6 w)
theorem B48_eq (a_p0 b_p1 : Value) (w : World) (K : Value → World → Prop) : denFn prog Tryd.f48 T48 [a_p0, b_p1] w K = B48 a_p0 b_p1 w K := by kernel_rfl
theorem c48 {a_p0 b_p1 : Value} {w : World} {K : Value → World → Prop} (h : B48 a_p0 b_p1 w K) : Calls prog 48 #[a_p0, b_p1] w (Ret K) :=
  denFn_calls Tryd.func48 T48_ok (Eq.mpr (B48_eq a_p0 b_p1 w K) h)

-- 44 math/bits.RotateLeft32
def T44 : Ann := (.seq .none (.seq .none (.seq .none .none)))
theorem T44_ok : chkFn prog Tryd.f44 T44 = true := by kernel_rfl
def B44 (x_p0 k_p1 : Value) (w : World) (K : Value → World → Prop) : Prop :=
  pvv prog (convert 3 75 k_p1) w fun t_0 w =>
  pvv prog (binOp .and 75 t_0 (.int .u64 31)) w fun t_1 w =>
  pvv prog (binOp .shl 77 x_p0 t_1) w fun t_2 w =>
  pvv prog (binOp .sub 75 (.int .u64 32) t_1) w fun t_3 w =>
  pvv prog (binOp .shr 77 x_p0 t_3) w fun t_4 w =>
  pvv prog (binOp .or 77 t_2 t_4) w fun t_5 w =>
  K t_5 w
theorem B44_eq (x_p0 k_p1 : Value) (w : World) (K : Value → World → Prop) : denFn prog Tryd.f44 T44 [x_p0, k_p1] w K = B44 x_p0 k_p1 w K := by kernel_rfl
theorem c44 {x_p0 k_p1 : Value} {w : World} {K : Value → World → Prop} (h : B44 x_p0 k_p1 w K) : Calls prog 44 #[x_p0, k_p1] w (Ret K) :=
  denFn_calls Tryd.func44 T44_ok (Eq.mpr (B44_eq x_p0 k_p1 w K) h)

-- 122 internal/strconv.isPowerOfTwo
def T122 : Ann := (.seq .none (.seq .none .none))
theorem T122_ok : chkFn prog Tryd.f122 T122 = true := by kernel_rfl
def B122 (x_p0 : Value) (w : World) (K : Value → World → Prop) : Prop :=
  pvv prog (binOp .sub 3 x_p0 (.int .i64 1)) w fun t_0 w =>
  pvv prog (binOp .and 3 x_p0 t_0) w fun t_1 w =>
  pvv prog (oEq .eql 3 (.tmp 6) (.const (.int .i64 0)) t_1 (.int .i64 0)) w fun t_2 w =>
  K t_2 w
theorem B122_eq (x_p0 : Value) (w : World) (K : Value → World → Prop) : denFn prog Tryd.f122 T122 [x_p0] w K = B122 x_p0 w K := by kernel_rfl
theorem c122 {x_p0 : Value} {w : World} {K : Value → World → Prop} (h : B122 x_p0 w K) : Calls prog 122 #[x_p0] w (Ret K) :=
  denFn_calls Tryd.func122 T122_ok (Eq.mpr (B122_eq x_p0 w K) h)

-- 51 holdfast/audit.number
def T51 : Ann := (.seq .none (.seq .none (.seq .none .none)))
theorem T51_ok : chkFn prog Tryd.f51 T51 = true := by kernel_rfl
def B51 (n_p0 : Value) (w : World) (K : Value → World → Prop) : Prop :=
  Calls prog 67 #[n_p0] w (Ret fun t_0 w =>
  pvv prog (Instr.extract t_0 0) w fun t_1 w =>
  pvv prog (Instr.extract t_0 1) w fun t_2 w =>
  K t_1 w)
theorem B51_eq (n_p0 : Value) (w : World) (K : Value → World → Prop) : denFn prog Tryd.f51 T51 [n_p0] w K = B51 n_p0 w K := by kernel_rfl
theorem c51 {n_p0 : Value} {w : World} {K : Value → World → Prop} (h : B51 n_p0 w K) : Calls prog 51 #[n_p0] w (Ret K) :=
  denFn_calls Tryd.func51 T51_ok (Eq.mpr (B51_eq n_p0 w K) h)

-- 106 internal/stringslite.IndexByte
def T106 : Ann := (.seq .none (.seq .none .none))
theorem T106_ok : chkFn prog Tryd.f106 T106 = true := by kernel_rfl
def B106 (s_p0 c_p1 : Value) (w : World) (K : Value → World → Prop) : Prop :=
  ef prog (oCall (.func (.func 118) #[] #[]) #[s_p0, c_p1]) w fun t_0 w =>
  K t_0 w
theorem B106_eq (s_p0 c_p1 : Value) (w : World) (K : Value → World → Prop) : denFn prog Tryd.f106 T106 [s_p0, c_p1] w K = B106 s_p0 c_p1 w K := by kernel_rfl
theorem c106 {s_p0 c_p1 : Value} {w : World} {K : Value → World → Prop} (h : B106 s_p0 c_p1 w K) : Calls prog 106 #[s_p0, c_p1] w (Ret K) :=
  denFn_calls Tryd.func106 T106_ok (Eq.mpr (B106_eq s_p0 c_p1 w K) h)

-- 89 strconv.FormatInt
def T89 : Ann := (.seq .none (.seq .none .none))
theorem T89_ok : chkFn prog Tryd.f89 T89 = true := by kernel_rfl
def B89 (i_p0 base_p1 : Value) (w : World) (K : Value → World → Prop) : Prop :=
  Calls prog 104 #[i_p0, base_p1] w (Ret fun t_0 w =>
  K t_0 w)
theorem B89_eq (i_p0 base_p1 : Value) (w : World) (K : Value → World → Prop) : denFn prog Tryd.f89 T89 [i_p0, base_p1] w K = B89 i_p0 base_p1 w K := by kernel_rfl
theorem c89 {i_p0 base_p1 : Value} {w : World} {K : Value → World → Prop} (h : B89 i_p0 base_p1 w K) : Calls prog 89 #[i_p0, base_p1] w (Ret K) :=
  denFn_calls Tryd.func89 T89_ok (Eq.mpr (B89_eq i_p0 base_p1 w K) h)

-- 13 holdfast/audit.New
def T13 : Ann := (.seq .none (.seq .none .none))
theorem T13_ok : chkFn prog Tryd.f13 T13 = true := by kernel_rfl
def B13 (w : World) (K : Value → World → Prop) : Prop :=
  pvv prog (Instr.build 98 #[]) w fun t_0 w =>
  efv prog (Instr.box 98 t_0) w fun t_1 w =>
  K t_1 w
theorem B13_eq (w : World) (K : Value → World → Prop) : denFn prog Tryd.f13 T13 [] w K = B13  w K := by kernel_rfl
theorem c13 {w : World} {K : Value → World → Prop} (h : B13  w K) : Calls prog 13 #[] w (Ret K) :=
  denFn_calls Tryd.func13 T13_ok (Eq.mpr (B13_eq  w K) h)


end Go.Proofs.YtmnaalpjhkkglaaDoor
