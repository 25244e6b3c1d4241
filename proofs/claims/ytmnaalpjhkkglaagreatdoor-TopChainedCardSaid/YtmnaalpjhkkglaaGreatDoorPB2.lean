import Derived.Test.YtmnaalpjhkkglaaGreatDoorPI
set_option linter.all false
set_option maxRecDepth 100000
namespace Go.Proofs.YtmnaalpjhkkglaaGreatDoor
open Go Hold
-- 25 (holdfast/hash.words).mix
def T25 : Ann := (.seq .none (.seq .none (.seq (.seq .none (.block (.loop 324518553658426726783156020315904 [18] (.seq .none (.seq (.seq .none .none) (.meet 162259276829213363391578009241344 [] (.block (.seq .none (.seq (.seq .none (.seq (.seq (.draw [.op 0 .pure, .op 1 .pure, .op 2 .pure, .op 3 .pure, .op 4 .pure, .op 8 .pure, .op 9 .pure, .op 10 .pure, .op 11 .pure, .op 12 .pure, .op 17 .pure, .op 18 .pure, .op 19 .pure, .op 20 .pure, .op 21 .pure, .op 26 .pure, .op 27 .pure, .op 28 .pure, .op 29 .pure, .op 30 .pure, .op 5 .load, .op 6 .pure, .op 7 .pure, .op 13 .load, .op 14 .pure, .op 15 .pure, .op 16 .pure, .op 22 .load, .op 23 .pure, .op 24 .pure, .op 25 .pure, .op 31 .load, .op 32 .pure, .op 33 .pure, .op 34 .pure, .op 35 .eff]) .none) .none)) (.seq (.draw [.op 0 .pure, .op 1 .pure, .op 2 .pure, .op 5 .pure, .op 6 .pure, .op 7 .pure, .op 11 .pure, .op 12 .pure, .op 13 .pure, .op 3 .load, .op 8 .load, .op 14 .load, .op 15 .pure, .op 4 .eff, .op 9 .eff, .op 10 .pure, .op 16 .pure, .op 17 .pure]) (.seq (.draw [.op 0 .pure, .op 1 .pure, .op 2 .pure, .op 5 .pure, .op 6 .pure, .op 7 .pure, .op 11 .pure, .op 12 .pure, .op 13 .pure, .op 3 .load, .op 8 .load, .op 14 .load, .op 15 .pure, .op 4 .eff, .op 9 .eff, .op 10 .pure, .op 16 .pure, .op 17 .pure]) (.draw [.op 0 .pure, .op 1 .pure, .op 2 .pure, .op 3 .pure, .op 5 .pure, .op 7 .pure, .op 8 .pure, .op 9 .pure, .op 12 .pure, .op 4 .load, .op 6 .pure, .op 10 .load, .op 11 .pure, .op 13 .pure, .op 14 .pure, .op 15 .eff])))))) .none)))))) (.seq .none (.seq (.seq .none (.block (.loop 784637716923335095479473028863850985159340864245963288576 [109] (.seq .none (.seq (.seq .none .none) (.seq (.block (.seq .none (.seq (.draw [.op 0 .pure, .op 3 .pure, .op 7 .pure, .op 1 .load, .op 4 .load, .op 8 .load, .op 2 .eff, .op 5 .eff, .op 6 .pure, .op 9 .eff, .op 10 .pure, .op 11 .pure]) (.seq (.draw [.op 0 .pure, .op 2 .pure, .op 4 .pure, .op 6 .pure, .op 8 .pure, .op 10 .pure, .op 16 .pure, .op 17 .pure, .op 18 .pure, .op 19 .pure, .op 22 .pure, .op 23 .pure, .op 1 .load, .op 3 .pure, .op 5 .load, .op 7 .load, .op 9 .load, .op 11 .load, .op 12 .pure, .op 13 .pure, .op 14 .pure, .op 15 .pure, .op 20 .load, .op 21 .pure, .op 24 .load, .op 25 .pure, .op 26 .pure]) (.seq (.draw [.op 0 .pure, .op 3 .pure, .op 7 .pure, .op 1 .load, .op 4 .load, .op 8 .load, .op 2 .eff, .op 5 .eff, .op 6 .pure, .op 9 .eff, .op 10 .pure, .op 11 .pure]) (.seq .none (.seq (.draw [.op 0 .pure, .op 1 .pure, .op 2 .eff]) (.seq .none .none)))))))) .none)))))) (.seq (.seq .none (.block (.loop 3213091450801057215988444711004424246742393193135027666419712 [189] (.seq .none (.seq (.seq .none .none) (.seq (.block (.seq .none (.draw [.op 0 .pure, .op 1 .pure, .op 3 .pure, .op 4 .pure, .op 2 .load, .op 5 .load, .op 6 .pure, .op 7 .pure, .op 8 .eff]))) .none)))))) (.seq .none .none)))))))
theorem T25_ok : chkFn prog Tryz.f25 T25 = true := by kernel_rfl
def B25 (h_p0 k_p1 b_p2 : Value) (w : World) (K : Value → World → Prop) : Prop :=
  efv prog (Instr.box 76 h_p0) w fun h_0 w =>
  efv prog (Instr.alloc 76 true (.tuple #[])) w fun t_1 w =>
  efv prog (Instr.alloc 119 true (.tuple #[])) w fun w_2 w =>
  lp (fun σ w again_4 => pop σ fun t_3 σ => fin σ <|
    pvv prog (binOp .lss 3 t_3 (.int .i64 64)) w fun t_5 w =>
    cd t_5 (
      jn (fun σ w => fin σ <|
        pvv prog (binOp .add 3 t_3 (.int .i64 1)) w fun t_6 w =>
        again_4 [t_6] w) fun k_7 =>
      pvv prog (binOp .lss 3 t_3 (.int .i64 16)) w fun t_8 w =>
      cd t_8 (
        dr w fun w =>
        pvv prog (binOp .mul 3 (.int .i64 4) t_3) w fun t_9 w =>
        pvv prog (Instr.indexAt 22 b_p2 t_9) w fun t_10 w =>
        pvv prog (binOp .mul 3 (.int .i64 4) t_3) w fun t_11 w =>
        pvv prog (binOp .add 3 t_11 (.int .i64 1)) w fun t_12 w =>
        pvv prog (Instr.indexAt 22 b_p2 t_12) w fun t_13 w =>
        pvv prog (binOp .mul 3 (.int .i64 4) t_3) w fun t_14 w =>
        pvv prog (binOp .add 3 t_14 (.int .i64 2)) w fun t_15 w =>
        pvv prog (Instr.indexAt 22 b_p2 t_15) w fun t_16 w =>
        pvv prog (binOp .mul 3 (.int .i64 4) t_3) w fun t_17 w =>
        pvv prog (binOp .add 3 t_17 (.int .i64 3)) w fun t_18 w =>
        pvv prog (Instr.indexAt 22 b_p2 t_18) w fun t_19 w =>
        bindS (vN (Instr.loadAt 5 t_10)) fun m_21 => ldv prog (Instr.loadAt 5 t_10) w fun t_20 w =>
        pvv prog (convert 5 74 t_20) w fun t_22 w =>
        pvv prog (binOp .shl 74 t_22 (.int .u64 24)) w fun t_23 w =>
        bindS (vN (Instr.loadAt 5 t_13)) fun m_25 => ldv prog (Instr.loadAt 5 t_13) w fun t_24 w =>
        pvv prog (convert 5 74 t_24) w fun t_26 w =>
        pvv prog (binOp .shl 74 t_26 (.int .u64 16)) w fun t_27 w =>
        pvv prog (binOp .or 74 t_23 t_27) w fun t_28 w =>
        bindS (vN (Instr.loadAt 5 t_16)) fun m_30 => ldv prog (Instr.loadAt 5 t_16) w fun t_29 w =>
        pvv prog (convert 5 74 t_29) w fun t_31 w =>
        pvv prog (binOp .shl 74 t_31 (.int .u64 8)) w fun t_32 w =>
        pvv prog (binOp .or 74 t_28 t_32) w fun t_33 w =>
        bindS (vN (Instr.loadAt 5 t_19)) fun m_35 => ldv prog (Instr.loadAt 5 t_19) w fun t_34 w =>
        pvv prog (convert 5 74 t_34) w fun t_36 w =>
        pvv prog (binOp .or 74 t_33 t_36) w fun t_37 w =>
        pvv prog (Instr.indexAt 119 w_2 t_3) w fun t_38 w =>
        efu prog (Instr.storeAt 74 t_38 t_37) w fun u_39 w =>
        k_7 [] w) <|
      dr w fun w =>
      pvv prog (binOp .sub 3 t_3 (.int .i64 15)) w fun t_41 w =>
      pvv prog (Instr.indexAt 119 w_2 t_41) w fun t_42 w =>
      pvv prog (binOp .sub 3 t_3 (.int .i64 15)) w fun t_43 w =>
      pvv prog (Instr.indexAt 119 w_2 t_43) w fun t_44 w =>
      pvv prog (binOp .sub 3 t_3 (.int .i64 15)) w fun t_45 w =>
      pvv prog (Instr.indexAt 119 w_2 t_45) w fun t_46 w =>
      bindS (vN (Instr.loadAt 74 t_42)) fun m_48 => ldv prog (Instr.loadAt 74 t_42) w fun t_47 w =>
      bindS (vN (Instr.loadAt 74 t_44)) fun m_50 => ldv prog (Instr.loadAt 74 t_44) w fun t_49 w =>
      bindS (vN (Instr.loadAt 74 t_46)) fun m_52 => ldv prog (Instr.loadAt 74 t_46) w fun t_51 w =>
      pvv prog (binOp .shr 74 t_51 (.int .u64 3)) w fun t_53 w =>
      Calls prog 49 #[t_47, (.int .i64 (-7))] w (Ret fun t_54 w => stay prog none m_52 t_51 w <| stay prog none m_50 t_49 w <| 
      Calls prog 49 #[t_49, (.int .i64 (-18))] w (Ret fun t_55 w => stay prog none m_52 t_51 w <| stay prog none m_48 t_47 w <| 
      pvv prog (binOp .xor 74 t_54 t_55) w fun t_56 w =>
      pvv prog (binOp .xor 74 t_56 t_53) w fun t_57 w =>
      dr w fun w =>
      pvv prog (binOp .sub 3 t_3 (.int .i64 2)) w fun t_58 w =>
      pvv prog (Instr.indexAt 119 w_2 t_58) w fun t_59 w =>
      pvv prog (binOp .sub 3 t_3 (.int .i64 2)) w fun t_60 w =>
      pvv prog (Instr.indexAt 119 w_2 t_60) w fun t_61 w =>
      pvv prog (binOp .sub 3 t_3 (.int .i64 2)) w fun t_62 w =>
      pvv prog (Instr.indexAt 119 w_2 t_62) w fun t_63 w =>
      bindS (vN (Instr.loadAt 74 t_59)) fun m_65 => ldv prog (Instr.loadAt 74 t_59) w fun t_64 w =>
      bindS (vN (Instr.loadAt 74 t_61)) fun m_67 => ldv prog (Instr.loadAt 74 t_61) w fun t_66 w =>
      bindS (vN (Instr.loadAt 74 t_63)) fun m_69 => ldv prog (Instr.loadAt 74 t_63) w fun t_68 w =>
      pvv prog (binOp .shr 74 t_68 (.int .u64 10)) w fun t_70 w =>
      Calls prog 49 #[t_64, (.int .i64 (-17))] w (Ret fun t_71 w => stay prog none m_69 t_68 w <| stay prog none m_67 t_66 w <| 
      Calls prog 49 #[t_66, (.int .i64 (-19))] w (Ret fun t_72 w => stay prog none m_69 t_68 w <| stay prog none m_65 t_64 w <| 
      pvv prog (binOp .xor 74 t_71 t_72) w fun t_73 w =>
      pvv prog (binOp .xor 74 t_73 t_70) w fun t_74 w =>
      dr w fun w =>
      pvv prog (binOp .sub 3 t_3 (.int .i64 16)) w fun t_75 w =>
      pvv prog (Instr.indexAt 119 w_2 t_75) w fun t_76 w =>
      pvv prog (binOp .sub 3 t_3 (.int .i64 7)) w fun t_77 w =>
      pvv prog (Instr.indexAt 119 w_2 t_77) w fun t_78 w =>
      bindS (vN (Instr.loadAt 74 t_76)) fun m_80 => ldv prog (Instr.loadAt 74 t_76) w fun t_79 w =>
      pvv prog (binOp .add 74 t_79 t_57) w fun t_81 w =>
      bindS (vN (Instr.loadAt 74 t_78)) fun m_83 => ldv prog (Instr.loadAt 74 t_78) w fun t_82 w =>
      pvv prog (binOp .add 74 t_81 t_82) w fun t_84 w =>
      pvv prog (binOp .add 74 t_84 t_74) w fun t_85 w =>
      pvv prog (Instr.indexAt 119 w_2 t_3) w fun t_86 w =>
      efu prog (Instr.storeAt 74 t_86 t_85) w fun u_87 w =>
      k_7 [] w))))) <|
    ldv prog (Instr.loadAt 76 h_0) w fun t_93 w =>
    efv prog (Instr.alloc 76 true (.tuple #[])) w fun v_94 w =>
    efu prog (Instr.storeAt 76 v_94 t_93) w fun u_95 w =>
    lp (fun σ w again_97 => pop σ fun t_96 σ => fin σ <|
      pvv prog (binOp .lss 3 t_96 (.int .i64 64)) w fun t_98 w =>
      cd t_98 (
        dr w fun w =>
        pvv prog (Instr.indexAt 76 v_94 (.int .i64 4)) w fun t_99 w =>
        pvv prog (Instr.indexAt 76 v_94 (.int .i64 4)) w fun t_100 w =>
        pvv prog (Instr.indexAt 76 v_94 (.int .i64 4)) w fun t_101 w =>
        bindS (vN (Instr.loadAt 74 t_99)) fun m_103 => ldv prog (Instr.loadAt 74 t_99) w fun t_102 w =>
        bindS (vN (Instr.loadAt 74 t_100)) fun m_105 => ldv prog (Instr.loadAt 74 t_100) w fun t_104 w =>
        bindS (vN (Instr.loadAt 74 t_101)) fun m_107 => ldv prog (Instr.loadAt 74 t_101) w fun t_106 w =>
        Calls prog 49 #[t_102, (.int .i64 (-6))] w (Ret fun t_108 w => stay prog none m_107 t_106 w <| stay prog none m_105 t_104 w <| 
        Calls prog 49 #[t_104, (.int .i64 (-11))] w (Ret fun t_109 w => stay prog none m_107 t_106 w <| stay prog none m_103 t_102 w <| 
        pvv prog (binOp .xor 74 t_108 t_109) w fun t_110 w =>
        Calls prog 49 #[t_106, (.int .i64 (-25))] w (Ret fun t_111 w => stay prog none m_105 t_104 w <| stay prog none m_103 t_102 w <| 
        pvv prog (binOp .xor 74 t_110 t_111) w fun t_112 w =>
        dr w fun w =>
        pvv prog (Instr.indexAt 76 v_94 (.int .i64 7)) w fun t_113 w =>
        pvv prog (Instr.indexAt 76 v_94 (.int .i64 6)) w fun t_114 w =>
        pvv prog (Instr.indexAt 76 v_94 (.int .i64 4)) w fun t_115 w =>
        pvv prog (Instr.indexAt 76 v_94 (.int .i64 5)) w fun t_116 w =>
        pvv prog (Instr.indexAt 76 v_94 (.int .i64 6)) w fun t_117 w =>
        pv prog (oNil k_p1) w fun t_118 w =>
        pvv prog (Instr.indexAt 119 t_118 t_96) w fun t_119 w =>
        pvv prog (Instr.indexAt 119 w_2 t_96) w fun t_120 w =>
        bindS (vN (Instr.loadAt 74 t_113)) fun m_122 => ldv prog (Instr.loadAt 74 t_113) w fun t_121 w =>
        pvv prog (binOp .add 74 t_121 t_112) w fun t_123 w =>
        bindS (vN (Instr.loadAt 74 t_114)) fun m_125 => ldv prog (Instr.loadAt 74 t_114) w fun t_124 w =>
        bindS (vN (Instr.loadAt 74 t_115)) fun m_127 => ldv prog (Instr.loadAt 74 t_115) w fun t_126 w =>
        bindS (vN (Instr.loadAt 74 t_116)) fun m_129 => ldv prog (Instr.loadAt 74 t_116) w fun t_128 w =>
        bindS (vN (Instr.loadAt 74 t_117)) fun m_131 => ldv prog (Instr.loadAt 74 t_117) w fun t_130 w =>
        pvv prog (binOp .xor 74 t_128 t_130) w fun t_132 w =>
        pvv prog (binOp .and 74 t_126 t_132) w fun t_133 w =>
        pvv prog (binOp .xor 74 t_124 t_133) w fun t_134 w =>
        pvv prog (binOp .add 74 t_123 t_134) w fun t_135 w =>
        bindS (vN (Instr.loadAt 74 t_119)) fun m_137 => ldv prog (Instr.loadAt 74 t_119) w fun t_136 w =>
        pvv prog (binOp .add 74 t_135 t_136) w fun t_138 w =>
        bindS (vN (Instr.loadAt 74 t_120)) fun m_140 => ldv prog (Instr.loadAt 74 t_120) w fun t_139 w =>
        pvv prog (binOp .add 74 t_138 t_139) w fun t_141 w =>
        dr w fun w =>
        pvv prog (Instr.indexAt 76 v_94 (.int .i64 0)) w fun t_142 w =>
        pvv prog (Instr.indexAt 76 v_94 (.int .i64 0)) w fun t_143 w =>
        pvv prog (Instr.indexAt 76 v_94 (.int .i64 0)) w fun t_144 w =>
        bindS (vN (Instr.loadAt 74 t_142)) fun m_146 => ldv prog (Instr.loadAt 74 t_142) w fun t_145 w =>
        bindS (vN (Instr.loadAt 74 t_143)) fun m_148 => ldv prog (Instr.loadAt 74 t_143) w fun t_147 w =>
        bindS (vN (Instr.loadAt 74 t_144)) fun m_150 => ldv prog (Instr.loadAt 74 t_144) w fun t_149 w =>
        Calls prog 49 #[t_145, (.int .i64 (-2))] w (Ret fun t_151 w => stay prog none m_150 t_149 w <| stay prog none m_148 t_147 w <| 
        Calls prog 49 #[t_147, (.int .i64 (-13))] w (Ret fun t_152 w => stay prog none m_150 t_149 w <| stay prog none m_146 t_145 w <| 
        pvv prog (binOp .xor 74 t_151 t_152) w fun t_153 w =>
        Calls prog 49 #[t_149, (.int .i64 (-22))] w (Ret fun t_154 w => stay prog none m_148 t_147 w <| stay prog none m_146 t_145 w <| 
        pvv prog (binOp .xor 74 t_153 t_154) w fun t_155 w =>
        pvv prog (Instr.indexAt 76 v_94 (.int .i64 0)) w fun t_156 w =>
        ldv prog (Instr.loadAt 74 t_156) w fun t_157 w =>
        pvv prog (Instr.indexAt 76 v_94 (.int .i64 1)) w fun t_158 w =>
        ldv prog (Instr.loadAt 74 t_158) w fun t_159 w =>
        pvv prog (binOp .and 74 t_157 t_159) w fun t_160 w =>
        pvv prog (Instr.indexAt 76 v_94 (.int .i64 2)) w fun t_161 w =>
        ldv prog (Instr.loadAt 74 t_161) w fun t_162 w =>
        pvv prog (Instr.indexAt 76 v_94 (.int .i64 0)) w fun t_163 w =>
        ldv prog (Instr.loadAt 74 t_163) w fun t_164 w =>
        pvv prog (Instr.indexAt 76 v_94 (.int .i64 1)) w fun t_165 w =>
        ldv prog (Instr.loadAt 74 t_165) w fun t_166 w =>
        pvv prog (binOp .or 74 t_164 t_166) w fun t_167 w =>
        pvv prog (binOp .and 74 t_162 t_167) w fun t_168 w =>
        pvv prog (binOp .or 74 t_160 t_168) w fun t_169 w =>
        pvv prog (binOp .add 74 t_155 t_169) w fun t_170 w =>
        dr w fun w =>
        pvv prog (Instr.sliceAt 76 v_94 (some (.int .i64 1)) none none) w fun t_171 w =>
        pvv prog (Instr.sliceAt 76 v_94 none (some (.int .i64 7)) none) w fun t_172 w =>
        ef prog (oBi .copy #[121, 121] 3 #[false, false] #[t_171, t_172]) w fun t_173 w =>
        pvv prog (Instr.indexAt 76 v_94 (.int .i64 4)) w fun t_174 w =>
        ldv prog (Instr.loadAt 74 t_174) w fun t_175 w =>
        pvv prog (binOp .add 74 t_175 t_141) w fun t_176 w =>
        pvv prog (Instr.indexAt 76 v_94 (.int .i64 4)) w fun t_177 w =>
        efu prog (Instr.storeAt 74 t_177 t_176) w fun u_178 w =>
        pvv prog (binOp .add 74 t_141 t_170) w fun t_179 w =>
        pvv prog (Instr.indexAt 76 v_94 (.int .i64 0)) w fun t_180 w =>
        efu prog (Instr.storeAt 74 t_180 t_179) w fun u_181 w =>
        pvv prog (binOp .add 3 t_96 (.int .i64 1)) w fun t_182 w =>
        again_97 [t_182] w))))))) <|
      lp (fun σ w again_191 => pop σ fun t_190 σ => fin σ <|
        pvv prog (binOp .lss 3 t_190 (.int .i64 8)) w fun t_192 w =>
        cd t_192 (
          dr w fun w =>
          pvv prog (Instr.indexAt 76 h_0 t_190) w fun t_193 w =>
          pvv prog (Instr.indexAt 76 v_94 t_190) w fun t_194 w =>
          bindS (vN (Instr.loadAt 74 t_193)) fun m_196 => ldv prog (Instr.loadAt 74 t_193) w fun t_195 w =>
          bindS (vN (Instr.loadAt 74 t_194)) fun m_198 => ldv prog (Instr.loadAt 74 t_194) w fun t_197 w =>
          pvv prog (binOp .add 74 t_195 t_197) w fun t_199 w =>
          pvv prog (Instr.indexAt 76 h_0 t_190) w fun t_200 w =>
          efu prog (Instr.storeAt 74 t_200 t_199) w fun u_201 w =>
          pvv prog (binOp .add 3 t_190 (.int .i64 1)) w fun t_202 w =>
          again_191 [t_202] w) <|
        ldv prog (Instr.loadAt 76 h_0) w fun t_204 w =>
        efu prog (Instr.storeAt 76 t_1 t_204) w fun u_205 w =>
        ∃ r_206, (do loadVar 76 (← asAddr t_1)).run prog w = .ok r_206 w ∧ K r_206 w) [(.int .i64 0)] w) [(.int .i64 0)] w) [(.int .i64 0)] w
theorem B25_eq (h_p0 k_p1 b_p2 : Value) (w : World) (K : Value → World → Prop) : denFn prog Tryz.f25 T25 [h_p0, k_p1, b_p2] w K = B25 h_p0 k_p1 b_p2 w K := by kernel_rfl
theorem c25 {h_p0 k_p1 b_p2 : Value} {w : World} {K : Value → World → Prop} (h : B25 h_p0 k_p1 b_p2 w K) : Calls prog 25 #[h_p0, k_p1, b_p2] w (Ret K) :=
  denFn_calls Tryz.func25 T25_ok (Eq.mpr (B25_eq h_p0 k_p1 b_p2 w K) h)

-- 3 holdfast/holdfasttop.TopChained
def T3 : Ann := (.seq .none (.seq .none (.seq .none (.seq (.seq .none (.seq (.seq .none .none) .none)) (.seq (.seq .none (.block (.loop 9223371899415823248 [7] (.seq (.seq .none (.seq .none .none)) (.seq (.block (.seq .none (.seq .none (.seq (.seq .none .none) .none)))) .none))))) (.seq .none (.seq .none (.seq .none (.seq (.seq .none (.block (.loop 170141183460469231584113351126208738320 [10, 12] (.seq (.seq .none (.seq .none .none)) (.seq (.block (.seq .none (.seq (.seq .none (.block (.loop 10633823966278722520320649167656435728 [14] (.seq (.seq .none (.seq .none .none)) (.seq (.block (.seq .none (.seq .none (.seq (.seq .none (.seq (.seq .none .none) .none)) .none)))) .none))))) .none))) .none))))) (.seq .none (.seq (.seq .none (.seq (.seq .none .none) .none)) (.seq .none (.seq .none (.seq (.draw [.op 0 .pure, .op 1 .pure, .op 2 .pure, .op 3 .pure, .op 5 .pure, .op 6 .pure, .op 7 .pure, .op 8 .pure, .op 4 .eff, .op 9 .eff, .op 10 .pure]) (.seq .none (.seq .none .none))))))))))))))))
theorem T3_ok : chkFn prog Tryz.f3 T3 = true := by kernel_rfl
def B3 (l_p0 k_p1 : Value) (w : World) (K : Value → World → Prop) : Prop :=
  Calls prog 5 #[] w (Ret fun t_0 w =>
  efv prog (Instr.buildSlice 22 1 #[(0, (.int .u8 114))]) w fun t_1 w =>
  efv prog (convert 22 22 t_1) w fun t_2 w =>
  Calls prog 7 #[t_2] w (Ret fun t_3 w =>
  Calls prog 6 #[t_3] w (Ret fun t_4 w =>
  pvv prog (oEq .eql 23 (.tmp 31) (.const (.pointer none)) t_0 (.pointer none)) w fun t_5 w =>
  gate (some (t_5, false)) (fun K => K t_4 w) w fun t_6 w =>
  gate (some (t_5, false)) (fun K => pvv prog (oEq .eql 25 (.tmp 34) (.const (.pointer none)) t_6 (.pointer none)) w K) w fun t_7 w =>
  pv prog (oPick t_5 (.bool true) t_7) w fun t_8 w =>
  cd t_8 (
    K (.bool false) w) <|
  lp (fun σ w again_10 => pop σ fun i_9 σ => fin σ <|
    pv prog (oBi .len #[22] 3 #[false] #[l_p0]) w fun t_11 w =>
    pvv prog (binOp .lss 3 i_9 t_11) w fun t_12 w =>
    gate (some (t_12, true)) (fun K => K i_9 w) w fun t_13 w =>
    gate (some (t_12, true)) (fun K => pvv prog (binOp .lss 3 t_13 (.int .i64 20)) w K) w fun t_14 w =>
    pv prog (oPick t_12 t_14 (.bool false)) w fun t_15 w =>
    cd t_15 (
      pvv prog (Instr.indexAt 22 l_p0 i_9) w fun t_16 w =>
      ldv prog (Instr.loadAt 5 t_16) w fun t_17 w =>
      pvv prog (binOp .rem 5 t_17 (.int .u8 26)) w fun t_18 w =>
      pvv prog (binOp .add 5 (.int .u8 97) t_18) w fun t_19 w =>
      efv prog (Instr.buildSlice 22 1 #[(0, t_19)]) w fun t_20 w =>
      efv prog (convert 22 9 t_20) w fun t_21 w =>
      Calls prog 8 #[t_0, i_9, t_21, (.string ⟨#[119]⟩)] w (Ret fun t_22 w =>
      pvv prog (Instr.extract t_22 0) w fun t_23 w =>
      pvv prog (Instr.extract t_22 1) w fun t_24 w =>
      efv prog (Instr.alloc 31 true (.tuple #[])) w fun t_25 w =>
      efu prog (Instr.storeAt 31 t_25 t_23) w fun u_26 w =>
      pvv prog (oEq .neq 32 (.tmp 61) (.const (.int .i64 0)) t_24 (.int .i64 0)) w fun t_27 w =>
      cd t_27 (
        K (.bool false) w) <|
      pvv prog (binOp .add 3 i_9 (.int .i64 1)) w fun t_28 w =>
      again_10 [t_28] w)) <|
    Calls prog 9 #[t_0] w (Ret fun t_29 w =>
    Calls prog 10 #[t_0] w (Ret fun t_30 w =>
    lp (fun σ w again_33 => pop σ fun back_31 σ => pop σ fun i_32 σ => fin σ <|
      pv prog (oBi .len #[37] 3 #[false] #[t_30]) w fun t_34 w =>
      pvv prog (binOp .lss 3 i_32 t_34) w fun t_35 w =>
      cd t_35 (
        pvv prog (Instr.indexAt 37 t_30 i_32) w fun t_36 w =>
        pvv prog (Instr.fieldAt 41 t_36 0) w fun t_37 w =>
        ldv prog (Instr.loadAt 9 t_37) w fun t_38 w =>
        pvv prog (Instr.build 41 #[(0, t_38)]) w fun t_39 w =>
        efv prog (Instr.alloc 41 true (.tuple #[])) w fun x_40 w =>
        efu prog (Instr.storeAt 41 x_40 t_39) w fun u_41 w =>
        lp (fun σ w again_43 => pop σ fun j_42 σ => fin σ <|
          pvv prog (Instr.indexAt 37 t_30 i_32) w fun t_44 w =>
          pvv prog (Instr.fieldAt 41 t_44 1) w fun t_45 w =>
          ldv prog (Instr.loadAt 39 t_45) w fun t_46 w =>
          pv prog (oBi .len #[39] 3 #[false] #[t_46]) w fun t_47 w =>
          pvv prog (binOp .lss 3 j_42 t_47) w fun t_48 w =>
          cd t_48 (
            pvv prog (Instr.indexAt 37 t_30 i_32) w fun t_49 w =>
            pvv prog (Instr.fieldAt 41 t_49 1) w fun t_50 w =>
            ldv prog (Instr.loadAt 39 t_50) w fun t_51 w =>
            pvv prog (Instr.indexAt 39 t_51 j_42) w fun t_52 w =>
            ldv prog (Instr.loadAt 9 t_52) w fun t_53 w =>
            efv prog (convert 9 22 t_53) w fun t_54 w =>
            Calls prog 11 #[t_4, (.string ⟨#[116]⟩), (.string ⟨#[97, 117, 100, 105, 116]⟩), t_54] w (Ret fun t_55 w =>
            pvv prog (Instr.extract t_55 0) w fun t_56 w =>
            pvv prog (Instr.extract t_55 1) w fun t_57 w =>
            Calls prog 12 #[t_4, (.string ⟨#[116]⟩), (.string ⟨#[97, 117, 100, 105, 116]⟩), t_56] w (Ret fun t_58 w =>
            pvv prog (Instr.extract t_58 0) w fun t_59 w =>
            pvv prog (Instr.extract t_58 1) w fun t_60 w =>
            pvv prog (Instr.extract t_58 2) w fun t_61 w =>
            pvv prog (oEq .neq 32 (.tmp 110) (.const (.int .i64 0)) t_57 (.int .i64 0)) w fun t_62 w =>
            gate (some (t_62, false)) (fun K => K t_61 w) w fun t_63 w =>
            gate (some (t_62, false)) (fun K => pvv prog (oEq .neq 32 (.tmp 113) (.const (.int .i64 0)) t_63 (.int .i64 0)) w K) w fun t_64 w =>
            pv prog (oPick t_62 (.bool true) t_64) w fun t_65 w =>
            cd t_65 (
              K (.bool false) w) <|
            pvv prog (Instr.fieldAt 41 x_40 1) w fun t_66 w =>
            ldv prog (Instr.loadAt 39 t_66) w fun t_67 w =>
            efv prog (convert 22 9 t_59) w fun t_68 w =>
            efv prog (Instr.buildSlice 39 1 #[(0, t_68)]) w fun t_69 w =>
            ef prog (oBi .append #[39, 39] 39 #[false, false] #[t_67, t_69]) w fun t_70 w =>
            pvv prog (Instr.fieldAt 41 x_40 1) w fun t_71 w =>
            efu prog (Instr.storeAt 39 t_71 t_70) w fun u_72 w =>
            pvv prog (binOp .add 3 j_42 (.int .i64 1)) w fun t_73 w =>
            again_43 [t_73] w))) <|
          ldv prog (Instr.loadAt 41 x_40) w fun t_74 w =>
          efv prog (Instr.buildSlice 37 1 #[(0, t_74)]) w fun t_75 w =>
          ef prog (oBi .append #[37, 37] 37 #[false, false] #[back_31, t_75]) w fun t_76 w =>
          pvv prog (binOp .add 3 i_32 (.int .i64 1)) w fun t_77 w =>
          again_33 [t_76, t_77] w) [(.int .i64 0)] w) <|
      Calls prog 13 #[back_31] w (Ret fun t_78 w =>
      pvv prog (Instr.extract t_78 0) w fun t_79 w =>
      pvv prog (Instr.extract t_78 1) w fun t_80 w =>
      pvv prog (oEq .neq 32 (.tmp 132) (.const (.int .i64 0)) t_80 (.int .i64 0)) w fun t_81 w =>
      gate (some (t_81, false)) (fun K => K t_79 w) w fun t_82 w =>
      gate (some (t_81, false)) (fun K => Calls prog 14 #[t_82] w (Ret K)) w fun t_83 w =>
      gate (some (t_81, false)) (fun K => pvv prog (oEq .neq 32 (.tmp 136) (.const (.int .i64 0)) t_83 (.int .i64 0)) w K) w fun t_84 w =>
      pv prog (oPick t_81 (.bool true) t_84) w fun t_85 w =>
      gate (some (t_85, false)) (fun K => K t_79 w) w fun t_86 w =>
      gate (some (t_85, false)) (fun K => Calls prog 15 #[t_86] w (Ret K)) w fun t_87 w =>
      gate (some (t_85, false)) (fun K => K t_0 w) w fun t_88 w =>
      gate (some (t_85, false)) (fun K => Calls prog 15 #[t_88] w (Ret K)) w fun t_89 w =>
      gate (some (t_85, false)) (fun K => pvv prog (oEq .neq 28 (.tmp 141) (.tmp 143) t_87 t_89) w K) w fun t_90 w =>
      pv prog (oPick t_85 (.bool true) t_90) w fun t_91 w =>
      cd t_91 (
        K (.bool false) w) <|
      pvv prog (convert 5 3 k_p1) w fun t_92 w =>
      pv prog (oBi .len #[37] 3 #[false] #[back_31]) w fun t_93 w =>
      pvv prog (binOp .rem 3 t_92 t_93) w fun t_94 w =>
      dr w fun w =>
      pvv prog (Instr.sliceAt 37 back_31 none (some t_94) none) w fun t_95 w =>
      pvv prog (binOp .add 3 t_94 (.int .i64 1)) w fun t_96 w =>
      pvv prog (Instr.sliceAt 37 back_31 (some t_96) none none) w fun t_97 w =>
      ef prog (oBi .append #[37, 37] 37 #[false, false] #[(.slice none 0 0), t_95]) w fun t_98 w =>
      ef prog (oBi .append #[37, 37] 37 #[false, false] #[t_98, t_97]) w fun t_99 w =>
      Calls prog 13 #[t_99] w (Ret fun t_100 w =>
      pvv prog (Instr.extract t_100 0) w fun t_101 w =>
      pvv prog (Instr.extract t_100 1) w fun t_102 w =>
      pvv prog (oEq .eql 32 (.tmp 166) (.const (.int .i64 3)) t_102 (.int .i64 3)) w fun t_103 w =>
      K t_103 w))) [(.slice none 0 0), (.int .i64 0)] w))) [(.int .i64 0)] w)))
theorem B3_eq (l_p0 k_p1 : Value) (w : World) (K : Value → World → Prop) : denFn prog Tryz.f3 T3 [l_p0, k_p1] w K = B3 l_p0 k_p1 w K := by kernel_rfl
theorem c3 {l_p0 k_p1 : Value} {w : World} {K : Value → World → Prop} (h : B3 l_p0 k_p1 w K) : Calls prog 3 #[l_p0, k_p1] w (Ret K) :=
  denFn_calls Tryz.func3 T3_ok (Eq.mpr (B3_eq l_p0 k_p1 w K) h)

-- 8 (*holdfast/audit.Chain).Add
def T8 : Ann := (.seq .none (.seq (.block (.seq .none (.seq (.seq .none .none) (.seq .none (.seq (.seq .none .none) (.seq .none (.seq (.seq .none .none) (.seq .none (.seq (.seq .none .none) (.seq .none (.seq (.seq .none .none) .none))))))))))) (.seq .none (.seq (.draw [.op 0 .pure, .op 1 .pure, .op 2 .pure, .op 3 .pure, .op 5 .pure, .op 6 .pure, .op 7 .pure, .op 10 .pure, .op 11 .pure, .op 12 .pure, .op 4 .load, .op 8 .load, .op 9 .pure, .op 13 .load, .op 14 .pure, .op 15 .pure, .op 16 .load, .op 17 .eff, .op 18 .eff, .op 19 .pure, .op 20 .pure, .op 21 .eff]) (.seq (.draw [.op 0 .pure, .op 1 .pure, .op 2 .pure, .op 3 .pure, .op 4 .load, .op 5 .load, .op 6 .eff, .op 7 .pure, .op 8 .pure, .op 9 .eff]) (.seq .none (.seq .none .none)))))))
theorem T8_ok : chkFn prog Tryz.f8 T8 = true := by kernel_rfl
def B8 (c_p0 at_p1 what_p2 who_p3 : Value) (w : World) (K : Value → World → Prop) : Prop :=
  efv prog (Instr.alloc 31 true (.tuple #[])) w fun t_0 w =>
  pvv prog (oEq .eql 23 (.tmp 12) (.const (.pointer none)) c_p0 (.pointer none)) w fun t_1 w =>
  cd t_1 (
    pvv prog (Instr.build 31 #[]) w fun t_2 w =>
    efu prog (Instr.storeAt 31 t_0 t_2) w fun u_3 w =>
    ∃ r_4, (do loadVar 31 (← asAddr t_0)).run prog w = .ok r_4 w ∧ K (.tuple #[r_4, (.int .i64 1)]) w) <|
  pvv prog (binOp .lss 3 at_p1 (.int .i64 0)) w fun t_5 w =>
  gate (some (t_5, false)) (fun K => K at_p1 w) w fun t_6 w =>
  gate (some (t_5, false)) (fun K => pvv prog (binOp .gtr 3 t_6 (.int .i64 1099511627776)) w K) w fun t_7 w =>
  pv prog (oPick t_5 (.bool true) t_7) w fun t_8 w =>
  cd t_8 (
    pvv prog (Instr.build 31 #[]) w fun t_9 w =>
    efu prog (Instr.storeAt 31 t_0 t_9) w fun u_10 w =>
    ∃ r_11, (do loadVar 31 (← asAddr t_0)).run prog w = .ok r_11 w ∧ K (.tuple #[r_11, (.int .i64 2)]) w) <|
  pv prog (oBi .len #[9] 3 #[false] #[what_p2]) w fun t_12 w =>
  pvv prog (binOp .gtr 3 t_12 (.int .i64 12)) w fun t_13 w =>
  gate (some (t_13, false)) (fun K => K who_p3 w) w fun t_14 w =>
  gate (some (t_13, false)) (fun K => pv prog (oBi .len #[9] 3 #[false] #[t_14]) w K) w fun t_15 w =>
  gate (some (t_13, false)) (fun K => pvv prog (binOp .gtr 3 t_15 (.int .i64 30)) w K) w fun t_16 w =>
  pv prog (oPick t_13 (.bool true) t_16) w fun t_17 w =>
  cd t_17 (
    pvv prog (Instr.build 31 #[]) w fun t_18 w =>
    efu prog (Instr.storeAt 31 t_0 t_18) w fun u_19 w =>
    ∃ r_20, (do loadVar 31 (← asAddr t_0)).run prog w = .ok r_20 w ∧ K (.tuple #[r_20, (.int .i64 6)]) w) <|
  pv prog (oNil c_p0) w fun t_21 w =>
  pvv prog (Instr.fieldAt 69 t_21 3) w fun t_22 w =>
  ldv prog (Instr.loadAt 3 t_22) w fun t_23 w =>
  pvv prog (binOp .lss 3 at_p1 t_23) w fun t_24 w =>
  cd t_24 (
    pvv prog (Instr.build 31 #[]) w fun t_25 w =>
    efu prog (Instr.storeAt 31 t_0 t_25) w fun u_26 w =>
    ∃ r_27, (do loadVar 31 (← asAddr t_0)).run prog w = .ok r_27 w ∧ K (.tuple #[r_27, (.int .i64 9)]) w) <|
  pv prog (oNil c_p0) w fun t_28 w =>
  pvv prog (Instr.fieldAt 69 t_28 4) w fun t_29 w =>
  ldv prog (Instr.loadAt 67 t_29) w fun t_30 w =>
  pv prog (oBi .len #[67] 3 #[false] #[t_30]) w fun t_31 w =>
  pvv prog (binOp .geq 3 t_31 (.int .i64 64)) w fun t_32 w =>
  cd t_32 (
    pvv prog (Instr.build 31 #[]) w fun t_33 w =>
    efu prog (Instr.storeAt 31 t_0 t_33) w fun u_34 w =>
    ∃ r_35, (do loadVar 31 (← asAddr t_0)).run prog w = .ok r_35 w ∧ K (.tuple #[r_35, (.int .i64 26)]) w) <|
  Calls prog 27 #[c_p0] w (Ret fun t_36 w =>
  pvv prog (binOp .add 3 t_36 (.int .i64 1)) w fun t_37 w =>
  pvv prog (Instr.build 31 #[(0, t_37), (1, at_p1), (2, what_p2), (3, who_p3)]) w fun t_38 w =>
  efv prog (Instr.alloc 31 true (.tuple #[])) w fun x_39 w =>
  efu prog (Instr.storeAt 31 x_39 t_38) w fun u_40 w =>
  dr w fun w =>
  pv prog (oNil c_p0) w fun t_41 w =>
  pvv prog (Instr.fieldAt 69 t_41 4) w fun t_42 w =>
  pv prog (oNil c_p0) w fun t_43 w =>
  pvv prog (Instr.fieldAt 69 t_43 4) w fun t_44 w =>
  pv prog (oNil c_p0) w fun t_45 w =>
  pvv prog (Instr.fieldAt 69 t_45 4) w fun t_46 w =>
  bindS (vN (Instr.loadAt 67 t_42)) fun m_48 => ldv prog (Instr.loadAt 67 t_42) w fun t_47 w =>
  bindS (vN (Instr.loadAt 67 t_44)) fun m_50 => ldv prog (Instr.loadAt 67 t_44) w fun t_49 w =>
  pv prog (oBi .len #[67] 3 #[false] #[t_49]) w fun t_51 w =>
  bindS (vN (Instr.loadAt 67 t_46)) fun m_53 => ldv prog (Instr.loadAt 67 t_46) w fun t_52 w =>
  pv prog (oBi .len #[67] 3 #[false] #[t_52]) w fun t_54 w =>
  pvv prog (Instr.sliceAt 67 t_47 none (some t_51) (some t_54)) w fun t_55 w =>
  bindS (vN (Instr.loadAt 31 x_39)) fun m_57 => ldv prog (Instr.loadAt 31 x_39) w fun t_56 w =>
  efv prog (Instr.buildSlice 67 1 #[(0, t_56)]) w fun t_58 w => stay prog none m_53 t_52 w <| stay prog none m_50 t_49 w <| stay prog none m_48 t_47 w <| 
  ef prog (oBi .append #[67, 67] 67 #[false, false] #[t_55, t_58]) w fun t_59 w => stay prog none m_57 t_56 w <| stay prog none m_53 t_52 w <| stay prog none m_50 t_49 w <| stay prog none m_48 t_47 w <| 
  pv prog (oNil c_p0) w fun t_60 w =>
  pvv prog (Instr.fieldAt 69 t_60 4) w fun t_61 w =>
  efu prog (Instr.storeAt 67 t_61 t_59) w fun u_62 w =>
  dr w fun w =>
  pv prog (oNil c_p0) w fun t_63 w =>
  pvv prog (Instr.fieldAt 69 t_63 2) w fun t_64 w =>
  bindS (vN (Instr.loadAt 28 t_64)) fun m_66 => ldv prog (Instr.loadAt 28 t_64) w fun t_65 w =>
  bindS (vN (Instr.loadAt 31 x_39)) fun m_68 => ldv prog (Instr.loadAt 31 x_39) w fun t_67 w =>
  Calls prog 28 #[t_65, t_67] w (Ret fun t_69 w =>
  pv prog (oNil c_p0) w fun t_70 w =>
  pvv prog (Instr.fieldAt 69 t_70 2) w fun t_71 w =>
  efu prog (Instr.storeAt 28 t_71 t_69) w fun u_72 w =>
  pv prog (oNil c_p0) w fun t_73 w =>
  pvv prog (Instr.fieldAt 69 t_73 3) w fun t_74 w =>
  efu prog (Instr.storeAt 3 t_74 at_p1) w fun u_75 w =>
  ldv prog (Instr.loadAt 31 x_39) w fun t_76 w =>
  efu prog (Instr.storeAt 31 t_0 t_76) w fun u_77 w =>
  ∃ r_78, (do loadVar 31 (← asAddr t_0)).run prog w = .ok r_78 w ∧ K (.tuple #[r_78, (.int .i64 0)]) w))
theorem B8_eq (c_p0 at_p1 what_p2 who_p3 : Value) (w : World) (K : Value → World → Prop) : denFn prog Tryz.f8 T8 [c_p0, at_p1, what_p2, who_p3] w K = B8 c_p0 at_p1 what_p2 who_p3 w K := by kernel_rfl
theorem c8 {c_p0 at_p1 what_p2 who_p3 : Value} {w : World} {K : Value → World → Prop} (h : B8 c_p0 at_p1 what_p2 who_p3 w K) : Calls prog 8 #[c_p0, at_p1, what_p2, who_p3] w (Ret K) :=
  denFn_calls Tryz.func8 T8_ok (Eq.mpr (B8_eq c_p0 at_p1 what_p2 who_p3 w K) h)

-- 14 (*holdfast/audit.Chain).Verify
def T14 : Ann := (.seq .none (.seq (.seq .none (.seq (.seq .none .none) .none)) (.seq .none (.seq (.seq .none (.block (.range .none (.block (.seq (.seq (.draw [.op 0 .pure, .op 1 .load, .op 2 .load, .op 3 .pure, .op 4 .pure, .op 5 .pure, .op 6 .load, .op 7 .pure, .op 8 .pure, .op 9 .load, .op 10 .load, .op 11 .pure, .op 12 .pure, .op 13 .load, .op 14 .pure, .op 15 .pure]) (.seq (.seq .none .none) .none)) .none))))) (.seq (.seq (.draw [.op 0 .pure, .op 1 .load, .op 2 .load, .op 3 .pure, .op 4 .pure, .op 5 .load, .op 6 .pure]) (.seq (.seq .none .none) .none)) (.seq .none .none))))))
theorem T14_ok : chkFn prog Tryz.f14 T14 = true := by kernel_rfl
def B14 (c_p0 : Value) (w : World) (K : Value → World → Prop) : Prop :=
  efv prog (Instr.box 23 c_p0) w fun c_0 w =>
  efv prog (Instr.alloc 32 true (.tuple #[])) w fun t_1 w =>
  ldv prog (Instr.loadAt 23 c_0) w fun t_2 w =>
  pvv prog (oEq .eql 23 (.tmp 5) (.const (.pointer none)) t_2 (.pointer none)) w fun t_3 w =>
  cd t_3 (
    efu prog (Instr.storeAt 32 t_1 (.int .i64 1)) w fun u_4 w =>
    ∃ r_5, (do loadVar 32 (← asAddr t_1)).run prog w = .ok r_5 w ∧ K r_5 w) <|
  efv prog (Instr.alloc 66 true (.tuple #[])) w fun last_6 w =>
  ldv prog (Instr.loadAt 23 c_0) w fun t_7 w =>
  Calls prog 37 #[t_7] w (Ret fun t_8 w =>
  rng prog 1 t_8 (fun σ w bg_10 ex_11 => pop σ fun t_9 σ => fin σ <|
    efv prog (Instr.alloc 66 true (.tuple #[])) w fun p_12 w =>
    efu prog (Instr.storeAt 66 p_12 t_9) w fun u_13 w =>
    bg_10 w fun w =>
    dr w fun w =>
    pvv prog (Instr.fieldAt 66 p_12 0) w fun t_14 w =>
    bindS (vN (Instr.loadAt 3 t_14)) fun m_16 => ldv prog (Instr.loadAt 3 t_14) w fun t_15 w =>
    bindS (vN (Instr.loadAt 23 c_0)) fun m_18 => ldv prog (Instr.loadAt 23 c_0) w fun t_17 w =>
    pv prog (oNil t_17) w fun t_19 w =>
    pvv prog (Instr.fieldAt 69 t_19 1) w fun t_20 w =>
    pvv prog (Instr.fieldAt 66 t_20 0) w fun t_21 w =>
    bindS (vN (Instr.loadAt 3 t_21)) fun m_23 => ldv prog (Instr.loadAt 3 t_21) w fun t_22 w =>
    pvv prog (oEq .eql 3 (.tmp 11) (.tmp 16) t_15 t_22) w fun t_24 w =>
    bindS (vN (Instr.loadAt 66 p_12)) fun m_26 => gate (some (t_24, true)) (fun K => ldv prog (Instr.loadAt 66 p_12) w K) w fun t_25 w =>
    bindS (vN (Instr.loadAt 23 c_0)) fun m_28 => gate (some (t_24, true)) (fun K => ldv prog (Instr.loadAt 23 c_0) w K) w fun t_27 w =>
    gate (some (t_24, true)) (fun K => pv prog (oNil t_27) w K) w fun t_29 w =>
    gate (some (t_24, true)) (fun K => pvv prog (Instr.fieldAt 69 t_29 1) w K) w fun t_30 w =>
    bindS (vN (Instr.loadAt 66 t_30)) fun m_32 => gate (some (t_24, true)) (fun K => ldv prog (Instr.loadAt 66 t_30) w K) w fun t_31 w =>
    gate (some (t_24, true)) (fun K => pvv prog (oEq .neq 66 (.tmp 19) (.tmp 23) t_25 t_31) w K) w fun t_33 w =>
    pv prog (oPick t_24 t_33 (.bool false)) w fun t_34 w =>
    cd t_34 (
      efu prog (Instr.storeAt 32 t_1 (.int .i64 15)) w fun u_35 w =>
      ex_11 .ret w) <|
    ldv prog (Instr.loadAt 66 p_12) w fun t_36 w =>
    efu prog (Instr.storeAt 66 last_6 t_36) w fun u_37 w =>
    ex_11 .normal w) w fun p_39 D_38 w =>
  jump (
    dr w fun w =>
    pvv prog (Instr.fieldAt 66 last_6 1) w fun t_40 w =>
    bindS (vN (Instr.loadAt 28 t_40)) fun m_42 => ldv prog (Instr.loadAt 28 t_40) w fun t_41 w =>
    bindS (vN (Instr.loadAt 23 c_0)) fun m_44 => ldv prog (Instr.loadAt 23 c_0) w fun t_43 w =>
    pv prog (oNil t_43) w fun t_45 w =>
    pvv prog (Instr.fieldAt 69 t_45 2) w fun t_46 w =>
    bindS (vN (Instr.loadAt 28 t_46)) fun m_48 => ldv prog (Instr.loadAt 28 t_46) w fun t_47 w =>
    pvv prog (oEq .neq 28 (.tmp 28) (.tmp 32) t_41 t_47) w fun t_49 w =>
    cd t_49 (
      efu prog (Instr.storeAt 32 t_1 (.int .i64 15)) w fun u_50 w =>
      und [D_38] w fun w => ∃ r_51, (do loadVar 32 (← asAddr t_1)).run prog w = .ok r_51 w ∧ K r_51 w) <|
    efu prog (Instr.storeAt 32 t_1 (.int .i64 0)) w fun u_52 w =>
    und [D_38] w fun w => ∃ r_53, (do loadVar 32 (← asAddr t_1)).run prog w = .ok r_53 w ∧ K r_53 w) (
    und [D_38] w fun w => ∃ r_54, (do loadVar 32 (← asAddr t_1)).run prog w = .ok r_54 w ∧ K r_54 w) [] p_39)
theorem B14_eq (c_p0 : Value) (w : World) (K : Value → World → Prop) : denFn prog Tryz.f14 T14 [c_p0] w K = B14 c_p0 w K := by kernel_rfl
theorem c14 {c_p0 : Value} {w : World} {K : Value → World → Prop} (h : B14 c_p0 w K) : Calls prog 14 #[c_p0] w (Ret K) :=
  denFn_calls Tryz.func14 T14_ok (Eq.mpr (B14_eq c_p0 w K) h)

-- 34 holdfast/seal.Open
def T34 : Ann := (.seq .none (.seq (.block (.seq .none (.seq (.seq .none .none) (.seq .none (.seq (.seq .none .none) .none))))) (.seq .none (.seq (.seq (.draw [.op 1 .pure, .op 2 .pure, .op 3 .pure, .op 5 .pure, .op 6 .pure, .op 7 .pure, .op 0 .load, .par [⟨4, .eff, (some 27), []⟩, ⟨8, .eff, (some 31), []⟩, ⟨9, .load, (some 32), [(1, some 31)]⟩], .op 10 .pure]) (.seq (.seq .none .none) .none)) (.seq (.seq .none (.block (.loop 140600049402400 [5, 37] (.seq .none (.seq (.seq .none .none) (.seq (.block (.seq .none .none)) .none)))))) (.seq (.draw [.op 1 .pure, .op 2 .pure, .op 3 .pure, .op 4 .pure, .op 6 .pure, .op 0 .load, .op 5 .eff, .op 7 .pure, .op 8 .pure, .op 9 .pure]) .none))))))
theorem T34_ok : chkFn prog Tryz.f34 T34 = true := by kernel_rfl
def B34 (key_p0 sealed_p1 : Value) (w : World) (K : Value → World → Prop) : Prop :=
  efv prog (Instr.box 28 key_p0) w fun key_0 w =>
  pv prog (oBi .len #[22] 3 #[false] #[sealed_p1]) w fun t_1 w =>
  Calls prog 58 #[(.int .i64 0)] w (Ret fun t_2 w =>
  pvv prog (binOp .lss 3 t_1 t_2) w fun t_3 w =>
  cd t_3 (
    K (.tuple #[(.slice none 0 0), (.int .u64 0), (.int .i64 3)]) w) <|
  pv prog (oBi .len #[22] 3 #[false] #[sealed_p1]) w fun t_4 w =>
  Calls prog 58 #[(.int .i64 1024)] w (Ret fun t_5 w =>
  pvv prog (binOp .gtr 3 t_4 t_5) w fun t_6 w =>
  cd t_6 (
    K (.tuple #[(.slice none 0 0), (.int .u64 0), (.int .i64 6)]) w) <|
  pv prog (oBi .len #[22] 3 #[false] #[sealed_p1]) w fun t_7 w =>
  pvv prog (binOp .sub 3 t_7 (.int .i64 16)) w fun t_8 w =>
  dr w fun w =>
  pvv prog (Instr.sliceAt 22 sealed_p1 none (some t_8) none) w fun t_9 w =>
  pvv prog (Instr.sliceAt 22 sealed_p1 (some t_8) none none) w fun t_10 w =>
  bindS (vN (Instr.loadAt 28 key_0)) fun m_12 => ldv prog (Instr.loadAt 28 key_0) w fun t_11 w =>
  par 3 w fun J_13 =>
    (∀ (σ : List (Option Value)) (w : World), J_13 σ w → un σ 0 (Calls prog 57 #[t_11, t_9] w (Ret fun v_14 w => J_13 (σ.set 0 (some v_14)) w))) ∧
    (∀ (σ : List (Option Value)) (w : World), J_13 σ w → un σ 1 (efv prog (Instr.arrayAt 130 t_10) w fun v_15 w => stay prog none m_12 t_11 w <| J_13 (σ.set 1 (some v_15)) w)) ∧
    (∀ (σ : List (Option Value)) (w : World), J_13 σ w → un σ 2 (is σ 1 fun t_16 => ldv prog (Instr.loadAt 130 t_16) w fun v_17 w => J_13 (σ.set 2 (some v_17)) w)) ∧
    ∀ (σ : List (Option Value)) (w : World), J_13 σ w → is σ 0 fun t_18 => is σ 1 fun t_19 => is σ 2 fun t_20 => 
    pvv prog (oEq .neq 130 (.tmp 27) (.tmp 32) t_18 t_20) w fun t_21 w =>
    cd t_21 (
      K (.tuple #[(.slice none 0 0), (.int .u64 0), (.int .i64 10)]) w) <|
    pvv prog (Instr.sliceAt 22 sealed_p1 none (some (.int .i64 8)) none) w fun t_22 w =>
    pv prog (oBi .len #[22] 3 #[false] #[t_22]) w fun t_23 w =>
    lp (fun σ w again_26 => pop σ fun once_24 σ => pop σ fun t_25 σ => fin σ <|
      pvv prog (binOp .lss 3 t_25 t_23) w fun t_27 w =>
      cd t_27 (
        pvv prog (Instr.indexAt 22 t_22 t_25) w fun t_28 w =>
        ldv prog (Instr.loadAt 5 t_28) w fun t_29 w =>
        pvv prog (binOp .shl 79 once_24 (.int .u64 8)) w fun t_30 w =>
        pvv prog (convert 5 79 t_29) w fun t_31 w =>
        pvv prog (binOp .or 79 t_30 t_31) w fun t_32 w =>
        pvv prog (binOp .add 3 t_25 (.int .i64 1)) w fun t_33 w =>
        again_26 [t_32, t_33] w) <|
      dr w fun w =>
      pvv prog (Instr.sliceAt 22 sealed_p1 (some (.int .i64 8)) (some t_8) none) w fun t_34 w =>
      bindS (vN (Instr.loadAt 28 key_0)) fun m_36 => ldv prog (Instr.loadAt 28 key_0) w fun t_35 w =>
      Calls prog 56 #[t_35, once_24, t_34] w (Ret fun t_37 w =>
      K (.tuple #[t_37, once_24, (.int .i64 0)]) w)) [(.int .u64 0), (.int .i64 0)] w))
theorem B34_eq (key_p0 sealed_p1 : Value) (w : World) (K : Value → World → Prop) : denFn prog Tryz.f34 T34 [key_p0, sealed_p1] w K = B34 key_p0 sealed_p1 w K := by kernel_rfl
theorem c34 {key_p0 sealed_p1 : Value} {w : World} {K : Value → World → Prop} (h : B34 key_p0 sealed_p1 w K) : Calls prog 34 #[key_p0, sealed_p1] w (Ret K) :=
  denFn_calls Tryz.func34 T34_ok (Eq.mpr (B34_eq key_p0 sealed_p1 w K) h)

-- 73 holdfast/seal.Stream
def T73 : Ann := (.seq .none (.seq (.seq .none (.seq (.seq .none .none) .none)) (.seq .none (.seq (.seq .none (.block (.range .none (.block (.seq (.seq .none (.seq .none .none)) (.draw [.op 1 .pure, .op 0 .load, .op 2 .eff, .op 3 .eff])))))) (.seq .none .none)))))
theorem T73_ok : chkFn prog Tryz.f73 T73 = true := by kernel_rfl
def B73 (key_p0 once_p1 n_p2 : Value) (w : World) (K : Value → World → Prop) : Prop :=
  efv prog (Instr.box 28 key_p0) w fun key_0 w =>
  efv prog (Instr.box 3 n_p2) w fun n_1 w =>
  ldv prog (Instr.loadAt 3 n_1) w fun t_2 w =>
  pvv prog (binOp .lss 3 t_2 (.int .i64 0)) w fun t_3 w =>
  gate (some (t_3, false)) (fun K => ldv prog (Instr.loadAt 3 n_1) w K) w fun t_4 w =>
  gate (some (t_3, false)) (fun K => pvv prog (binOp .gtr 3 t_4 (.int .i64 1024)) w K) w fun t_5 w =>
  pv prog (oPick t_3 (.bool true) t_5) w fun t_6 w =>
  cd t_6 (
    K (.tuple #[(.slice none 0 0), (.int .i64 2)]) w) <|
  efv prog (Instr.alloc 22 true (.tuple #[])) w fun out_7 w =>
  ldv prog (Instr.loadAt 28 key_0) w fun t_8 w =>
  Calls prog 101 #[t_8, once_p1] w (Ret fun t_9 w =>
  rng prog 1 t_9 (fun σ w bg_11 ex_12 => pop σ fun t_10 σ => fin σ <|
    efv prog (Instr.alloc 28 true (.tuple #[])) w fun b_13 w =>
    efu prog (Instr.storeAt 28 b_13 t_10) w fun u_14 w =>
    bg_11 w fun w =>
    ldv prog (Instr.loadAt 22 out_7) w fun t_15 w =>
    pv prog (oBi .len #[22] 3 #[false] #[t_15]) w fun t_16 w =>
    ldv prog (Instr.loadAt 3 n_1) w fun t_17 w =>
    pvv prog (binOp .geq 3 t_16 t_17) w fun t_18 w =>
    cd t_18 (
      ex_12 (.exit 0) w) <|
    dr w fun w =>
    pvv prog (Instr.sliceAt 28 b_13 none none none) w fun t_19 w =>
    bindS (vN (Instr.loadAt 22 out_7)) fun m_21 => ldv prog (Instr.loadAt 22 out_7) w fun t_20 w =>
    ef prog (oBi .append #[22, 22] 22 #[false, false] #[t_20, t_19]) w fun t_22 w =>
    efu prog (Instr.storeAt 22 out_7 t_22) w fun u_23 w =>
    ex_12 .normal w) w fun p_27 D_26 w =>
  jump (
    ldv prog (Instr.loadAt 22 out_7) w fun t_28 w =>
    ldv prog (Instr.loadAt 3 n_1) w fun t_29 w =>
    pvv prog (Instr.sliceAt 22 t_28 none (some t_29) none) w fun t_30 w =>
    und [D_26] w fun w => K (.tuple #[t_30, (.int .i64 0)]) w) (
    und [D_26] w fun w => K (.tuple #[(.slice none 0 0), (.int .i64 0)]) w) [(0, ldv prog (Instr.loadAt 22 out_7) w fun t_31 w =>
    ldv prog (Instr.loadAt 3 n_1) w fun t_32 w =>
    pvv prog (Instr.sliceAt 22 t_31 none (some t_32) none) w fun t_33 w =>
    und [D_26] w fun w => K (.tuple #[t_33, (.int .i64 0)]) w)] p_27)
theorem B73_eq (key_p0 once_p1 n_p2 : Value) (w : World) (K : Value → World → Prop) : denFn prog Tryz.f73 T73 [key_p0, once_p1, n_p2] w K = B73 key_p0 once_p1 n_p2 w K := by kernel_rfl
theorem c73 {key_p0 once_p1 n_p2 : Value} {w : World} {K : Value → World → Prop} (h : B73 key_p0 once_p1 n_p2 w K) : Calls prog 73 #[key_p0, once_p1, n_p2] w (Ret K) :=
  denFn_calls Tryz.func73 T73_ok (Eq.mpr (B73_eq key_p0 once_p1 n_p2 w K) h)

-- 89 math/bits.Len64
def T89 : Ann := (.seq .none (.meet 125 [0, 2] (.seq .none (.seq (.seq .none .none) .none)) (.meet 8069 [0, 2] (.seq .none (.seq (.seq .none .none) .none)) (.meet 516101 [0, 2] (.seq .none (.seq (.seq .none .none) .none)) (.seq .none .none)))))
theorem T89_ok : chkFn prog Tryz.f89 T89 = true := by kernel_rfl
def B89 (x_p0 : Value) (w : World) (K : Value → World → Prop) : Prop :=
  jn (fun σ w => pop σ fun x_0 σ => pop σ fun n_1 σ => fin σ <|
    jn (fun σ w => pop σ fun x_2 σ => pop σ fun n_3 σ => fin σ <|
      jn (fun σ w => pop σ fun x_4 σ => pop σ fun n_5 σ => fin σ <|
        pvv prog (convert 79 5 x_4) w fun t_6 w =>
        pvv prog (Instr.index 9 (.string ⟨#[0, 1, 2, 2, 3, 3, 3, 3, 4, 4, 4, 4, 4, 4, 4, 4, 5, 5, 5, 5, 5, 5, 5, 5, 5, 5, 5, 5, 5, 5, 5, 5, 6, 6, 6, 6, 6, 6, 6, 6, 6, 6, 6, 6, 6, 6, 6, 6, 6, 6, 6, 6, 6, 6, 6, 6, 6, 6, 6, 6, 6, 6, 6, 6, 7, 7, 7, 7, 7, 7, 7, 7, 7, 7, 7, 7, 7, 7, 7, 7, 7, 7, 7, 7, 7, 7, 7, 7, 7, 7, 7, 7, 7, 7, 7, 7, 7, 7, 7, 7, 7, 7, 7, 7, 7, 7, 7, 7, 7, 7, 7, 7, 7, 7, 7, 7, 7, 7, 7, 7, 7, 7, 7, 7, 7, 7, 7, 7, 8, 8, 8, 8, 8, 8, 8, 8, 8, 8, 8, 8, 8, 8, 8, 8, 8, 8, 8, 8, 8, 8, 8, 8, 8, 8, 8, 8, 8, 8, 8, 8, 8, 8, 8, 8, 8, 8, 8, 8, 8, 8, 8, 8, 8, 8, 8, 8, 8, 8, 8, 8, 8, 8, 8, 8, 8, 8, 8, 8, 8, 8, 8, 8, 8, 8, 8, 8, 8, 8, 8, 8, 8, 8, 8, 8, 8, 8, 8, 8, 8, 8, 8, 8, 8, 8, 8, 8, 8, 8, 8, 8, 8, 8, 8, 8, 8, 8, 8, 8, 8, 8, 8, 8, 8, 8, 8, 8, 8, 8, 8, 8, 8, 8, 8, 8, 8, 8, 8, 8, 8, 8, 8, 8, 8, 8, 8, 8]⟩) t_6) w fun t_7 w =>
        pvv prog (convert 5 3 t_7) w fun t_8 w =>
        pvv prog (binOp .add 3 n_5 t_8) w fun t_9 w =>
        K t_9 w) fun k_10 =>
      pvv prog (binOp .geq 79 x_2 (.int .u64 256)) w fun t_11 w =>
      cd t_11 (
        pvv prog (binOp .shr 79 x_2 (.int .u64 8)) w fun t_12 w =>
        pvv prog (binOp .add 3 n_3 (.int .i64 8)) w fun t_13 w =>
        k_10 [t_12, t_13] w) <|
      k_10 [x_2, n_3] w) fun k_14 =>
    pvv prog (binOp .geq 79 x_0 (.int .u64 65536)) w fun t_15 w =>
    cd t_15 (
      pvv prog (binOp .shr 79 x_0 (.int .u64 16)) w fun t_16 w =>
      pvv prog (binOp .add 3 n_1 (.int .i64 16)) w fun t_17 w =>
      k_14 [t_16, t_17] w) <|
    k_14 [x_0, n_1] w) fun k_18 =>
  pvv prog (binOp .geq 79 x_p0 (.int .u64 4294967296)) w fun t_19 w =>
  cd t_19 (
    pvv prog (binOp .shr 79 x_p0 (.int .u64 32)) w fun t_20 w =>
    k_18 [t_20, (.int .i64 32)] w) <|
  k_18 [x_p0, (.int .i64 0)] w
theorem B89_eq (x_p0 : Value) (w : World) (K : Value → World → Prop) : denFn prog Tryz.f89 T89 [x_p0] w K = B89 x_p0 w K := by kernel_rfl
theorem c89 {x_p0 : Value} {w : World} {K : Value → World → Prop} (h : B89 x_p0 w K) : Calls prog 89 #[x_p0] w (Ret K) :=
  denFn_calls Tryz.func89 T89_ok (Eq.mpr (B89_eq x_p0 w K) h)

-- 71 strings.Trim
def T71 : Ann := (.seq .none (.seq (.seq .none (.seq (.seq .none .none) .none)) (.seq (.seq .none (.seq (.seq (.draw [.op 0 .pure, .op 1 .pure, .op 2 .pure, .op 4 .pure, .op 5 .pure, .op 3 .eff, .op 6 .eff, .op 7 .pure]) .none) .none)) (.seq (.seq .none (.seq .none (.seq (.seq .none .none) .none))) (.seq .none .none)))))
theorem T71_ok : chkFn prog Tryz.f71 T71 = true := by kernel_rfl
def B71 (s_p0 cutset_p1 : Value) (w : World) (K : Value → World → Prop) : Prop :=
  pvv prog (oEq .eql 9 (.tmp 7) (.const (.string ⟨#[]⟩)) s_p0 (.string ⟨#[]⟩)) w fun t_0 w =>
  gate (some (t_0, false)) (fun K => K cutset_p1 w) w fun t_1 w =>
  gate (some (t_0, false)) (fun K => pvv prog (oEq .eql 9 (.tmp 10) (.const (.string ⟨#[]⟩)) t_1 (.string ⟨#[]⟩)) w K) w fun t_2 w =>
  pv prog (oPick t_0 (.bool true) t_2) w fun t_3 w =>
  cd t_3 (
    K s_p0 w) <|
  pv prog (oBi .len #[9] 3 #[false] #[cutset_p1]) w fun t_4 w =>
  pvv prog (oEq .eql 3 (.tmp 15) (.const (.int .i64 1)) t_4 (.int .i64 1)) w fun t_5 w =>
  gate (some (t_5, true)) (fun K => K cutset_p1 w) w fun t_6 w =>
  gate (some (t_5, true)) (fun K => pvv prog (Instr.index 9 t_6 (.int .i64 0)) w K) w fun t_7 w =>
  gate (some (t_5, true)) (fun K => pvv prog (binOp .lss 5 t_7 (.int .u8 128)) w K) w fun t_8 w =>
  pv prog (oPick t_5 t_8 (.bool false)) w fun t_9 w =>
  cd t_9 (
    dr w fun w =>
    pvv prog (Instr.index 9 cutset_p1 (.int .i64 0)) w fun t_10 w =>
    pvv prog (Instr.index 9 cutset_p1 (.int .i64 0)) w fun t_11 w =>
    Calls prog 94 #[s_p0, t_10] w (Ret fun t_12 w =>
    Calls prog 93 #[t_12, t_11] w (Ret fun t_13 w =>
    K t_13 w))) <|
  Calls prog 95 #[cutset_p1] w (Ret fun t_16 w =>
  pvv prog (Instr.extract t_16 0) w fun t_17 w =>
  pvv prog (Instr.extract t_16 1) w fun t_18 w =>
  efv prog (Instr.alloc 174 true (.tuple #[])) w fun as_19 w =>
  efu prog (Instr.storeAt 174 as_19 t_17) w fun u_20 w =>
  cd t_18 (
    Calls prog 97 #[s_p0, as_19] w (Ret fun t_21 w =>
    Calls prog 96 #[t_21, as_19] w (Ret fun t_22 w =>
    K t_22 w))) <|
  Calls prog 99 #[s_p0, cutset_p1] w (Ret fun t_23 w =>
  Calls prog 98 #[t_23, cutset_p1] w (Ret fun t_24 w =>
  K t_24 w)))
theorem B71_eq (s_p0 cutset_p1 : Value) (w : World) (K : Value → World → Prop) : denFn prog Tryz.f71 T71 [s_p0, cutset_p1] w K = B71 s_p0 cutset_p1 w K := by kernel_rfl
theorem c71 {s_p0 cutset_p1 : Value} {w : World} {K : Value → World → Prop} (h : B71 s_p0 cutset_p1 w K) : Calls prog 71 #[s_p0, cutset_p1] w (Ret K) :=
  denFn_calls Tryz.func71 T71_ok (Eq.mpr (B71_eq s_p0 cutset_p1 w K) h)

-- 24 holdfast/hash.rounds
def T24 : Ann := (.seq .none (.seq .none .none))
theorem T24_ok : chkFn prog Tryz.f24 T24 = true := by kernel_rfl
def B24 (w : World) (K : Value → World → Prop) : Prop :=
  pvv prog (Instr.build 119 #[(0, (.int .u32 1116352408)), (1, (.int .u32 1899447441)), (2, (.int .u32 3049323471)), (3, (.int .u32 3921009573)), (4, (.int .u32 961987163)), (5, (.int .u32 1508970993)), (6, (.int .u32 2453635748)), (7, (.int .u32 2870763221)), (8, (.int .u32 3624381080)), (9, (.int .u32 310598401)), (10, (.int .u32 607225278)), (11, (.int .u32 1426881987)), (12, (.int .u32 1925078388)), (13, (.int .u32 2162078206)), (14, (.int .u32 2614888103)), (15, (.int .u32 3248222580)), (16, (.int .u32 3835390401)), (17, (.int .u32 4022224774)), (18, (.int .u32 264347078)), (19, (.int .u32 604807628)), (20, (.int .u32 770255983)), (21, (.int .u32 1249150122)), (22, (.int .u32 1555081692)), (23, (.int .u32 1996064986)), (24, (.int .u32 2554220882)), (25, (.int .u32 2821834349)), (26, (.int .u32 2952996808)), (27, (.int .u32 3210313671)), (28, (.int .u32 3336571891)), (29, (.int .u32 3584528711)), (30, (.int .u32 113926993)), (31, (.int .u32 338241895)), (32, (.int .u32 666307205)), (33, (.int .u32 773529912)), (34, (.int .u32 1294757372)), (35, (.int .u32 1396182291)), (36, (.int .u32 1695183700)), (37, (.int .u32 1986661051)), (38, (.int .u32 2177026350)), (39, (.int .u32 2456956037)), (40, (.int .u32 2730485921)), (41, (.int .u32 2820302411)), (42, (.int .u32 3259730800)), (43, (.int .u32 3345764771)), (44, (.int .u32 3516065817)), (45, (.int .u32 3600352804)), (46, (.int .u32 4094571909)), (47, (.int .u32 275423344)), (48, (.int .u32 430227734)), (49, (.int .u32 506948616)), (50, (.int .u32 659060556)), (51, (.int .u32 883997877)), (52, (.int .u32 958139571)), (53, (.int .u32 1322822218)), (54, (.int .u32 1537002063)), (55, (.int .u32 1747873779)), (56, (.int .u32 1955562222)), (57, (.int .u32 2024104815)), (58, (.int .u32 2227730452)), (59, (.int .u32 2361852424)), (60, (.int .u32 2428436474)), (61, (.int .u32 2756734187)), (62, (.int .u32 3204031479)), (63, (.int .u32 3329325298))]) w fun t_0 w =>
  efv prog (Instr.box 119 t_0) w fun t_1 w =>
  K t_1 w
theorem B24_eq (w : World) (K : Value → World → Prop) : denFn prog Tryz.f24 T24 [] w K = B24  w K := by kernel_rfl
theorem c24 {w : World} {K : Value → World → Prop} (h : B24  w K) : Calls prog 24 #[] w (Ret K) :=
  denFn_calls Tryz.func24 T24_ok (Eq.mpr (B24_eq  w K) h)

-- 104 strconv.toError
def T104 : Ann := (.seq .none (.seq (.seq .none (.block (.seq .none (.seq (.seq .none .none) (.seq .none (.seq (.seq .none .none) (.seq .none (.seq (.seq .none .none) (.seq .none (.seq (.seq .none .none) .none)))))))))) (.seq .none .none)))
theorem T104_ok : chkFn prog Tryz.f104 T104 = true := by kernel_rfl
def B104 (fn_p0 s_p1 base_p2 bitSize_p3 err_p4 : Value) (w : World) (K : Value → World → Prop) : Prop :=
  pvv prog (Instr.makeInterface 203 (.int .i64 2)) w fun t_0 w =>
  pvv prog (oEq .eql 151 (.tmp 11) (.tmp 13) err_p4 t_0) w fun t_1 w =>
  cd t_1 (
    Calls prog 130 #[fn_p0, s_p1] w (Ret fun t_2 w =>
    pvv prog (Instr.makeInterface 205 t_2) w fun t_3 w =>
    K t_3 w)) <|
  pvv prog (Instr.makeInterface 203 (.int .i64 1)) w fun t_4 w =>
  pvv prog (oEq .eql 151 (.tmp 11) (.tmp 20) err_p4 t_4) w fun t_5 w =>
  cd t_5 (
    Calls prog 131 #[fn_p0, s_p1] w (Ret fun t_6 w =>
    pvv prog (Instr.makeInterface 205 t_6) w fun t_7 w =>
    K t_7 w)) <|
  pvv prog (Instr.makeInterface 203 (.int .i64 3)) w fun t_8 w =>
  pvv prog (oEq .eql 151 (.tmp 11) (.tmp 27) err_p4 t_8) w fun t_9 w =>
  cd t_9 (
    Calls prog 132 #[fn_p0, s_p1, base_p2] w (Ret fun t_10 w =>
    pvv prog (Instr.makeInterface 205 t_10) w fun t_11 w =>
    K t_11 w)) <|
  pvv prog (Instr.makeInterface 203 (.int .i64 4)) w fun t_12 w =>
  pvv prog (oEq .eql 151 (.tmp 11) (.tmp 35) err_p4 t_12) w fun t_13 w =>
  cd t_13 (
    Calls prog 133 #[fn_p0, s_p1, bitSize_p3] w (Ret fun t_14 w =>
    pvv prog (Instr.makeInterface 205 t_14) w fun t_15 w =>
    K t_15 w)) <|
  K err_p4 w
theorem B104_eq (fn_p0 s_p1 base_p2 bitSize_p3 err_p4 : Value) (w : World) (K : Value → World → Prop) : denFn prog Tryz.f104 T104 [fn_p0, s_p1, base_p2, bitSize_p3, err_p4] w K = B104 fn_p0 s_p1 base_p2 bitSize_p3 err_p4 w K := by kernel_rfl
theorem c104 {fn_p0 s_p1 base_p2 bitSize_p3 err_p4 : Value} {w : World} {K : Value → World → Prop} (h : B104 fn_p0 s_p1 base_p2 bitSize_p3 err_p4 w K) : Calls prog 104 #[fn_p0, s_p1, base_p2, bitSize_p3, err_p4] w (Ret K) :=
  denFn_calls Tryz.func104 T104_ok (Eq.mpr (B104_eq fn_p0 s_p1 base_p2 bitSize_p3 err_p4 w K) h)

-- 155 (*strings.Builder).Grow
def T155 : Ann := (.seq .none (.meet 448 [] (.seq .none (.seq .none .none)) (.seq (.draw [.op 0 .pure, .op 1 .pure, .op 2 .pure, .op 5 .pure, .op 6 .pure, .op 7 .pure, .op 11 .pure, .op 3 .load, .op 4 .pure, .op 8 .load, .op 9 .pure, .op 10 .pure, .op 12 .pure]) (.seq .none .none))))
theorem T155_ok : chkFn prog Tryz.f155 T155 = true := by kernel_rfl
def B155 (b_p0 n_p1 : Value) (w : World) (K : Value → World → Prop) : Prop :=
  Calls prog 182 #[b_p0] w (Ret fun t_0 w =>
  jn (fun σ w => fin σ <|
    dr w fun w =>
    pv prog (oNil b_p0) w fun t_1 w =>
    pvv prog (Instr.fieldAt 227 t_1 1) w fun t_2 w =>
    pv prog (oNil b_p0) w fun t_3 w =>
    pvv prog (Instr.fieldAt 227 t_3 1) w fun t_4 w =>
    bindS (vN (Instr.loadAt 22 t_2)) fun m_6 => ldv prog (Instr.loadAt 22 t_2) w fun t_5 w =>
    pv prog (oBi .cap #[22] 3 #[false] #[t_5]) w fun t_7 w =>
    bindS (vN (Instr.loadAt 22 t_4)) fun m_9 => ldv prog (Instr.loadAt 22 t_4) w fun t_8 w =>
    pv prog (oBi .len #[22] 3 #[false] #[t_8]) w fun t_10 w =>
    pvv prog (binOp .sub 3 t_7 t_10) w fun t_11 w =>
    pvv prog (binOp .lss 3 t_11 n_p1) w fun t_12 w =>
    cd t_12 (
      Calls prog 183 #[b_p0, n_p1] w (Ret fun t_13 w =>
      K (.tuple #[]) w)) <|
    K (.tuple #[]) w) fun k_14 =>
  pvv prog (binOp .lss 3 n_p1 (.int .i64 0)) w fun t_15 w =>
  cd t_15 (
    pvv prog (Instr.makeInterface 9 (.string ⟨#[115, 116, 114, 105, 110, 103, 115, 46, 66, 117, 105, 108, 100, 101, 114, 46, 71, 114, 111, 119, 58, 32, 110, 101, 103, 97, 116, 105, 118, 101, 32, 99, 111, 117, 110, 116]⟩)) w fun t_16 w =>
    efv prog (Instr.panic t_16) w fun u_17 w =>
    k_14 [] w) <|
  k_14 [] w)
theorem B155_eq (b_p0 n_p1 : Value) (w : World) (K : Value → World → Prop) : denFn prog Tryz.f155 T155 [b_p0, n_p1] w K = B155 b_p0 n_p1 w K := by kernel_rfl
theorem c155 {b_p0 n_p1 : Value} {w : World} {K : Value → World → Prop} (h : B155 b_p0 n_p1 w K) : Calls prog 155 #[b_p0, n_p1] w (Ret K) :=
  denFn_calls Tryz.func155 T155_ok (Eq.mpr (B155_eq b_p0 n_p1 w K) h)

-- 35 holdfast/audit.read
def T35 : Ann := (.seq .none (.seq (.seq .none (.seq (.seq .none .none) .none)) (.seq (.seq .none (.block (.loop 34359673328 [16] (.seq .none (.seq (.seq .none .none) (.seq (.block (.seq .none (.seq .none (.seq (.seq .none (.seq (.seq .none .none) .none)) .none)))) .none)))))) (.seq .none .none))))
theorem T35_ok : chkFn prog Tryz.f35 T35 = true := by kernel_rfl
def B35 (l_p0 to_p1 : Value) (w : World) (K : Value → World → Prop) : Prop :=
  pv prog (oBi .len #[39] 3 #[false] #[l_p0]) w fun t_0 w =>
  pv prog (oBi .len #[133] 3 #[false] #[to_p1]) w fun t_1 w =>
  pvv prog (oEq .neq 3 (.tmp 10) (.tmp 12) t_0 t_1) w fun t_2 w =>
  cd t_2 (
    K (.bool false) w) <|
  pv prog (oBi .len #[39] 3 #[false] #[l_p0]) w fun t_3 w =>
  lp (fun σ w again_5 => pop σ fun t_4 σ => fin σ <|
    pvv prog (binOp .lss 3 t_4 t_3) w fun t_6 w =>
    cd t_6 (
      pvv prog (Instr.indexAt 39 l_p0 t_4) w fun t_7 w =>
      ldv prog (Instr.loadAt 9 t_7) w fun t_8 w =>
      Calls prog 59 #[t_8] w (Ret fun t_9 w =>
      pvv prog (Instr.extract t_9 0) w fun t_10 w =>
      pvv prog (Instr.extract t_9 1) w fun t_11 w =>
      pvv prog (oEq .neq 32 (.tmp 26) (.const (.int .i64 0)) t_11 (.int .i64 0)) w fun t_12 w =>
      cd t_12 (
        K (.bool false) w) <|
      pvv prog (Instr.indexAt 133 to_p1 t_4) w fun t_13 w =>
      ldv prog (Instr.loadAt 92 t_13) w fun t_14 w =>
      pv prog (oNil t_14) w fun t_15 w =>
      efu prog (Instr.storeAt 3 t_15 t_10) w fun u_16 w =>
      pvv prog (binOp .add 3 t_4 (.int .i64 1)) w fun t_17 w =>
      again_5 [t_17] w)) <|
    K (.bool true) w) [(.int .i64 0)] w
theorem B35_eq (l_p0 to_p1 : Value) (w : World) (K : Value → World → Prop) : denFn prog Tryz.f35 T35 [l_p0, to_p1] w K = B35 l_p0 to_p1 w K := by kernel_rfl
theorem c35 {l_p0 to_p1 : Value} {w : World} {K : Value → World → Prop} (h : B35 l_p0 to_p1 w K) : Calls prog 35 #[l_p0, to_p1] w (Ret K) :=
  denFn_calls Tryz.func35 T35_ok (Eq.mpr (B35_eq l_p0 to_p1 w K) h)

-- 56 holdfast/seal.hidden
def T56 : Ann := (.seq .none (.seq .none (.seq (.seq .none (.block (.loop 17177773568 [21] (.seq .none (.seq (.seq .none .none) (.seq (.block (.seq .none .none)) .none)))))) (.seq .none .none))))
theorem T56_ok : chkFn prog Tryz.f56 T56 = true := by kernel_rfl
def B56 (key_p0 once_p1 b_p2 : Value) (w : World) (K : Value → World → Prop) : Prop :=
  efv prog (Instr.box 28 key_p0) w fun key_0 w =>
  ldv prog (Instr.loadAt 28 key_0) w fun t_1 w =>
  pv prog (oBi .len #[22] 3 #[false] #[b_p2]) w fun t_2 w =>
  Calls prog 73 #[t_1, once_p1, t_2] w (Ret fun t_3 w =>
  pvv prog (Instr.extract t_3 0) w fun t_4 w =>
  pvv prog (Instr.extract t_3 1) w fun t_5 w =>
  pv prog (oBi .len #[22] 3 #[false] #[b_p2]) w fun t_6 w =>
  lp (fun σ w again_8 => pop σ fun t_7 σ => fin σ <|
    pvv prog (binOp .lss 3 t_7 t_6) w fun t_9 w =>
    cd t_9 (
      pvv prog (Instr.indexAt 22 b_p2 t_7) w fun t_10 w =>
      ldv prog (Instr.loadAt 5 t_10) w fun t_11 w =>
      pvv prog (Instr.indexAt 22 t_4 t_7) w fun t_12 w =>
      ldv prog (Instr.loadAt 5 t_12) w fun t_13 w =>
      pvv prog (binOp .xor 5 t_13 t_11) w fun t_14 w =>
      pvv prog (Instr.indexAt 22 t_4 t_7) w fun t_15 w =>
      efu prog (Instr.storeAt 5 t_15 t_14) w fun u_16 w =>
      pvv prog (binOp .add 3 t_7 (.int .i64 1)) w fun t_17 w =>
      again_8 [t_17] w) <|
    K t_4 w) [(.int .i64 0)] w)
theorem B56_eq (key_p0 once_p1 b_p2 : Value) (w : World) (K : Value → World → Prop) : denFn prog Tryz.f56 T56 [key_p0, once_p1, b_p2] w K = B56 key_p0 once_p1 b_p2 w K := by kernel_rfl
theorem c56 {key_p0 once_p1 b_p2 : Value} {w : World} {K : Value → World → Prop} (h : B56 key_p0 once_p1 b_p2 w K) : Calls prog 56 #[key_p0, once_p1, b_p2] w (Ret K) :=
  denFn_calls Tryz.func56 T56_ok (Eq.mpr (B56_eq key_p0 once_p1 b_p2 w K) h)

-- 97 strings.trimRightASCII
def T97 : Ann := (.seq .none (.meet 2097121 [0] (.block (.loop 2097121 [0] (.seq (.seq .none (.seq .none .none)) (.block (.seq (.seq .none (.seq .none .none)) .none))))) (.seq .none .none)))
theorem T97_ok : chkFn prog Tryz.f97 T97 = true := by kernel_rfl
def B97 (s_p0 as_p1 : Value) (w : World) (K : Value → World → Prop) : Prop :=
  jn (fun σ w => pop σ fun s_0 σ => fin σ <|
    K s_0 w) fun k_1 =>
  lp (fun σ w again_3 => pop σ fun s_2 σ => fin σ <|
    pv prog (oBi .len #[9] 3 #[false] #[s_2]) w fun t_4 w =>
    pvv prog (binOp .gtr 3 t_4 (.int .i64 0)) w fun t_5 w =>
    cd t_5 (
      pv prog (oBi .len #[9] 3 #[false] #[s_2]) w fun t_6 w =>
      pvv prog (binOp .sub 3 t_6 (.int .i64 1)) w fun t_7 w =>
      pvv prog (Instr.index 9 s_2 t_7) w fun t_8 w =>
      Calls prog 121 #[as_p1, t_8] w (Ret fun t_9 w =>
      pvv prog (Op.unary .not t_9) w fun t_10 w =>
      cd t_10 (
        k_1 [s_2] w) <|
      pv prog (oBi .len #[9] 3 #[false] #[s_2]) w fun t_11 w =>
      pvv prog (binOp .sub 3 t_11 (.int .i64 1)) w fun t_12 w =>
      pvv prog (Instr.sliceAt 9 s_2 none (some t_12) none) w fun t_13 w =>
      again_3 [t_13] w)) <|
    k_1 [s_2] w) [s_p0] w
theorem B97_eq (s_p0 as_p1 : Value) (w : World) (K : Value → World → Prop) : denFn prog Tryz.f97 T97 [s_p0, as_p1] w K = B97 s_p0 as_p1 w K := by kernel_rfl
theorem c97 {s_p0 as_p1 : Value} {w : World} {K : Value → World → Prop} (h : B97 s_p0 as_p1 w K) : Calls prog 97 #[s_p0, as_p1] w (Ret K) :=
  denFn_calls Tryz.func97 T97_ok (Eq.mpr (B97_eq s_p0 as_p1 w K) h)

-- 27 (*holdfast/audit.Chain).Count
def T27 : Ann := (.seq .none (.seq (.seq .none (.seq (.seq .none .none) .none)) (.seq (.draw [.op 0 .pure, .op 1 .pure, .op 2 .pure, .op 3 .pure, .op 5 .pure, .op 6 .pure, .op 7 .pure, .op 4 .load, .op 8 .load, .op 9 .pure, .op 10 .pure, .op 11 .pure]) .none)))
theorem T27_ok : chkFn prog Tryz.f27 T27 = true := by kernel_rfl
def B27 (c_p0 : Value) (w : World) (K : Value → World → Prop) : Prop :=
  pvv prog (oEq .eql 23 (.tmp 3) (.const (.pointer none)) c_p0 (.pointer none)) w fun t_0 w =>
  cd t_0 (
    K (.int .i64 0) w) <|
  dr w fun w =>
  pv prog (oNil c_p0) w fun t_1 w =>
  pvv prog (Instr.fieldAt 69 t_1 0) w fun t_2 w =>
  pvv prog (Instr.fieldAt 66 t_2 0) w fun t_3 w =>
  pv prog (oNil c_p0) w fun t_4 w =>
  pvv prog (Instr.fieldAt 69 t_4 4) w fun t_5 w =>
  bindS (vN (Instr.loadAt 3 t_3)) fun m_7 => ldv prog (Instr.loadAt 3 t_3) w fun t_6 w =>
  bindS (vN (Instr.loadAt 67 t_5)) fun m_9 => ldv prog (Instr.loadAt 67 t_5) w fun t_8 w =>
  pv prog (oBi .len #[67] 3 #[false] #[t_8]) w fun t_10 w =>
  pvv prog (binOp .add 3 t_6 t_10) w fun t_11 w =>
  K t_11 w
theorem B27_eq (c_p0 : Value) (w : World) (K : Value → World → Prop) : denFn prog Tryz.f27 T27 [c_p0] w K = B27 c_p0 w K := by kernel_rfl
theorem c27 {c_p0 : Value} {w : World} {K : Value → World → Prop} (h : B27 c_p0 w K) : Calls prog 27 #[c_p0] w (Ret K) :=
  denFn_calls Tryz.func27 T27_ok (Eq.mpr (B27_eq c_p0 w K) h)

-- 102 internal/stringslite.HasPrefix
def T102 : Ann := (.seq .none (.seq .none .none))
theorem T102_ok : chkFn prog Tryz.f102 T102 = true := by kernel_rfl
def B102 (s_p0 prefix_p1 : Value) (w : World) (K : Value → World → Prop) : Prop :=
  pv prog (oBi .len #[9] 3 #[false] #[s_p0]) w fun t_0 w =>
  pv prog (oBi .len #[9] 3 #[false] #[prefix_p1]) w fun t_1 w =>
  pvv prog (binOp .geq 3 t_0 t_1) w fun t_2 w =>
  gate (some (t_2, true)) (fun K => K s_p0 w) w fun t_3 w =>
  gate (some (t_2, true)) (fun K => K prefix_p1 w) w fun t_4 w =>
  gate (some (t_2, true)) (fun K => pv prog (oBi .len #[9] 3 #[false] #[t_4]) w K) w fun t_5 w =>
  gate (some (t_2, true)) (fun K => pvv prog (Instr.sliceAt 9 t_3 none (some t_5) none) w K) w fun t_6 w =>
  gate (some (t_2, true)) (fun K => K prefix_p1 w) w fun t_7 w =>
  gate (some (t_2, true)) (fun K => pvv prog (oEq .eql 9 (.tmp 14) (.tmp 15) t_6 t_7) w K) w fun t_8 w =>
  pv prog (oPick t_2 t_8 (.bool false)) w fun t_9 w =>
  K t_9 w
theorem B102_eq (s_p0 prefix_p1 : Value) (w : World) (K : Value → World → Prop) : denFn prog Tryz.f102 T102 [s_p0, prefix_p1] w K = B102 s_p0 prefix_p1 w K := by kernel_rfl
theorem c102 {s_p0 prefix_p1 : Value} {w : World} {K : Value → World → Prop} (h : B102 s_p0 prefix_p1 w K) : Calls prog 102 #[s_p0, prefix_p1] w (Ret K) :=
  denFn_calls Tryz.func102 T102_ok (Eq.mpr (B102_eq s_p0 prefix_p1 w K) h)

-- 122 unicode/utf8.DecodeRuneInString
def T122 : Ann := (.seq .none (.seq (.seq .none (.seq (.seq .none .none) .none)) .none))
theorem T122_ok : chkFn prog Tryz.f122 T122 = true := by kernel_rfl
def B122 (s_p0 : Value) (w : World) (K : Value → World → Prop) : Prop :=
  pvv prog (oEq .neq 9 (.tmp 4) (.const (.string ⟨#[]⟩)) s_p0 (.string ⟨#[]⟩)) w fun t_0 w =>
  gate (some (t_0, true)) (fun K => K s_p0 w) w fun t_1 w =>
  gate (some (t_0, true)) (fun K => pvv prog (Instr.index 9 t_1 (.int .i64 0)) w K) w fun t_2 w =>
  gate (some (t_0, true)) (fun K => pvv prog (binOp .lss 5 t_2 (.int .u8 128)) w K) w fun t_3 w =>
  pv prog (oPick t_0 t_3 (.bool false)) w fun t_4 w =>
  cd t_4 (
    pvv prog (Instr.index 9 s_p0 (.int .i64 0)) w fun t_5 w =>
    pvv prog (convert 5 21 t_5) w fun t_6 w =>
    K (.tuple #[t_6, (.int .i64 1)]) w) <|
  Calls prog 152 #[s_p0] w (Ret fun t_7 w =>
  pvv prog (Instr.extract t_7 0) w fun t_8 w =>
  pvv prog (Instr.extract t_7 1) w fun t_9 w =>
  K (.tuple #[t_8, t_9]) w)
theorem B122_eq (s_p0 : Value) (w : World) (K : Value → World → Prop) : denFn prog Tryz.f122 T122 [s_p0] w K = B122 s_p0 w K := by kernel_rfl
theorem c122 {s_p0 : Value} {w : World} {K : Value → World → Prop} (h : B122 s_p0 w K) : Calls prog 122 #[s_p0] w (Ret K) :=
  denFn_calls Tryz.func122 T122_ok (Eq.mpr (B122_eq s_p0 w K) h)

-- 15 (*holdfast/audit.Chain).Head
def T15 : Ann := (.seq .none (.seq (.seq .none (.seq (.seq .none .none) .none)) (.seq .none .none)))
theorem T15_ok : chkFn prog Tryz.f15 T15 = true := by kernel_rfl
def B15 (c_p0 : Value) (w : World) (K : Value → World → Prop) : Prop :=
  efv prog (Instr.alloc 28 true (.tuple #[])) w fun t_0 w =>
  pvv prog (oEq .eql 23 (.tmp 3) (.const (.pointer none)) c_p0 (.pointer none)) w fun t_1 w =>
  cd t_1 (
    pvv prog (Instr.build 28 #[]) w fun t_2 w =>
    efu prog (Instr.storeAt 28 t_0 t_2) w fun u_3 w =>
    ∃ r_4, (do loadVar 28 (← asAddr t_0)).run prog w = .ok r_4 w ∧ K r_4 w) <|
  pv prog (oNil c_p0) w fun t_5 w =>
  pvv prog (Instr.fieldAt 69 t_5 2) w fun t_6 w =>
  ldv prog (Instr.loadAt 28 t_6) w fun t_7 w =>
  efu prog (Instr.storeAt 28 t_0 t_7) w fun u_8 w =>
  ∃ r_9, (do loadVar 28 (← asAddr t_0)).run prog w = .ok r_9 w ∧ K r_9 w
theorem B15_eq (c_p0 : Value) (w : World) (K : Value → World → Prop) : denFn prog Tryz.f15 T15 [c_p0] w K = B15 c_p0 w K := by kernel_rfl
theorem c15 {c_p0 : Value} {w : World} {K : Value → World → Prop} (h : B15 c_p0 w K) : Calls prog 15 #[c_p0] w (Ret K) :=
  denFn_calls Tryz.func15 T15_ok (Eq.mpr (B15_eq c_p0 w K) h)

-- 133 strconv.bitSizeError
def T133 : Ann := (.seq .none (.seq .none .none))
theorem T133_ok : chkFn prog Tryz.f133 T133 = true := by kernel_rfl
def B133 (fn_p0 str_p1 bitSize_p2 : Value) (w : World) (K : Value → World → Prop) : Prop :=
  Calls prog 159 #[str_p1] w (Ret fun t_0 w =>
  Calls prog 161 #[bitSize_p2] w (Ret fun t_1 w =>
  pvv prog (binOp .add 9 (.string ⟨#[105, 110, 118, 97, 108, 105, 100, 32, 98, 105, 116, 32, 115, 105, 122, 101, 32]⟩) t_1) w fun t_2 w =>
  Calls prog 160 #[t_2] w (Ret fun t_3 w =>
  pvv prog (Instr.build 236 #[(0, fn_p0), (1, t_0), (2, t_3)]) w fun t_4 w =>
  efv prog (Instr.box 236 t_4) w fun t_5 w =>
  K t_5 w)))
theorem B133_eq (fn_p0 str_p1 bitSize_p2 : Value) (w : World) (K : Value → World → Prop) : denFn prog Tryz.f133 T133 [fn_p0, str_p1, bitSize_p2] w K = B133 fn_p0 str_p1 bitSize_p2 w K := by kernel_rfl
theorem c133 {fn_p0 str_p1 bitSize_p2 : Value} {w : World} {K : Value → World → Prop} (h : B133 fn_p0 str_p1 bitSize_p2 w K) : Calls prog 133 #[fn_p0, str_p1, bitSize_p2] w (Ret K) :=
  denFn_calls Tryz.func133 T133_ok (Eq.mpr (B133_eq fn_p0 str_p1 bitSize_p2 w K) h)

-- 51 holdfast/hash.Chain
def T51 : Ann := (.seq .none (.seq .none .none))
theorem T51_ok : chkFn prog Tryz.f51 T51 = true := by kernel_rfl
def B51 (h_p0 b_p1 : Value) (w : World) (K : Value → World → Prop) : Prop :=
  efv prog (Instr.box 28 h_p0) w fun h_0 w =>
  efv prog (Instr.alloc 28 true (.tuple #[])) w fun t_1 w =>
  pvv prog (Instr.sliceAt 28 h_0 none none none) w fun t_2 w =>
  ef prog (oBi .append #[22, 22] 22 #[false, false] #[t_2, b_p1]) w fun t_3 w =>
  Calls prog 7 #[t_3] w (Ret fun t_4 w =>
  efu prog (Instr.storeAt 28 t_1 t_4) w fun u_5 w =>
  ∃ r_6, (do loadVar 28 (← asAddr t_1)).run prog w = .ok r_6 w ∧ K r_6 w)
theorem B51_eq (h_p0 b_p1 : Value) (w : World) (K : Value → World → Prop) : denFn prog Tryz.f51 T51 [h_p0, b_p1] w K = B51 h_p0 b_p1 w K := by kernel_rfl
theorem c51 {h_p0 b_p1 : Value} {w : World} {K : Value → World → Prop} (h : B51 h_p0 b_p1 w K) : Calls prog 51 #[h_p0, b_p1] w (Ret K) :=
  denFn_calls Tryz.func51 T51_ok (Eq.mpr (B51_eq h_p0 b_p1 w K) h)

-- 118 internal/strconv.numDigits
def T118 : Ann := (.seq .none (.seq .none (.seq .none .none)))
theorem T118_ok : chkFn prog Tryz.f118 T118 = true := by kernel_rfl
def B118 (d_p0 : Value) (w : World) (K : Value → World → Prop) : Prop :=
  Calls prog 89 #[d_p0] w (Ret fun t_0 w =>
  Calls prog 148 #[t_0] w (Ret fun t_1 w =>
  pvv prog (Instr.indexAt 221 (.pointer (some ⟨0, 0, none⟩)) t_1) w fun t_2 w =>
  ldv prog (Instr.loadAt 79 t_2) w fun t_3 w =>
  pvv prog (binOp .geq 79 d_p0 t_3) w fun t_4 w =>
  Calls prog 149 #[t_4] w (Ret fun t_5 w =>
  pvv prog (binOp .add 3 t_1 t_5) w fun t_6 w =>
  K t_6 w)))
theorem B118_eq (d_p0 : Value) (w : World) (K : Value → World → Prop) : denFn prog Tryz.f118 T118 [d_p0] w K = B118 d_p0 w K := by kernel_rfl
theorem c118 {d_p0 : Value} {w : World} {K : Value → World → Prop} (h : B118 d_p0 w K) : Calls prog 118 #[d_p0] w (Ret K) :=
  denFn_calls Tryz.func118 T118_ok (Eq.mpr (B118_eq d_p0 w K) h)

-- 150 internal/strconv.isPowerOfTwo
def T150 : Ann := (.seq .none (.seq .none .none))
theorem T150_ok : chkFn prog Tryz.f150 T150 = true := by kernel_rfl
def B150 (x_p0 : Value) (w : World) (K : Value → World → Prop) : Prop :=
  pvv prog (binOp .sub 3 x_p0 (.int .i64 1)) w fun t_0 w =>
  pvv prog (binOp .and 3 x_p0 t_0) w fun t_1 w =>
  pvv prog (oEq .eql 3 (.tmp 6) (.const (.int .i64 0)) t_1 (.int .i64 0)) w fun t_2 w =>
  K t_2 w
theorem B150_eq (x_p0 : Value) (w : World) (K : Value → World → Prop) : denFn prog Tryz.f150 T150 [x_p0] w K = B150 x_p0 w K := by kernel_rfl
theorem c150 {x_p0 : Value} {w : World} {K : Value → World → Prop} (h : B150 x_p0 w K) : Calls prog 150 #[x_p0] w (Ret K) :=
  denFn_calls Tryz.func150 T150_ok (Eq.mpr (B150_eq x_p0 w K) h)

-- 121 (*strings.asciiSet).contains
def T121 : Ann := (.seq .none (.seq .none .none))
theorem T121_ok : chkFn prog Tryz.f121 T121 = true := by kernel_rfl
def B121 (as_p0 c_p1 : Value) (w : World) (K : Value → World → Prop) : Prop :=
  pv prog (oNil as_p0) w fun t_0 w =>
  pvv prog (Instr.indexAt 174 t_0 c_p1) w fun t_1 w =>
  ldv prog (Instr.loadAt 4 t_1) w fun t_2 w =>
  K t_2 w
theorem B121_eq (as_p0 c_p1 : Value) (w : World) (K : Value → World → Prop) : denFn prog Tryz.f121 T121 [as_p0, c_p1] w K = B121 as_p0 c_p1 w K := by kernel_rfl
theorem c121 {as_p0 c_p1 : Value} {w : World} {K : Value → World → Prop} (h : B121 as_p0 c_p1 w K) : Calls prog 121 #[as_p0, c_p1] w (Ret K) :=
  denFn_calls Tryz.func121 T121_ok (Eq.mpr (B121_eq as_p0 c_p1 w K) h)

-- 123 strings.ContainsRune
def T123 : Ann := (.seq .none (.seq .none .none))
theorem T123_ok : chkFn prog Tryz.f123 T123 = true := by kernel_rfl
def B123 (s_p0 r_p1 : Value) (w : World) (K : Value → World → Prop) : Prop :=
  Calls prog 153 #[s_p0, r_p1] w (Ret fun t_0 w =>
  pvv prog (binOp .geq 3 t_0 (.int .i64 0)) w fun t_1 w =>
  K t_1 w)
theorem B123_eq (s_p0 r_p1 : Value) (w : World) (K : Value → World → Prop) : denFn prog Tryz.f123 T123 [s_p0, r_p1] w K = B123 s_p0 r_p1 w K := by kernel_rfl
theorem c123 {s_p0 r_p1 : Value} {w : World} {K : Value → World → Prop} (h : B123 s_p0 r_p1 w K) : Calls prog 123 #[s_p0, r_p1] w (Ret K) :=
  denFn_calls Tryz.func123 T123_ok (Eq.mpr (B123_eq s_p0 r_p1 w K) h)

-- 176 internal/bytealg.Cutover
def T176 : Ann := (.seq .none (.seq .none .none))
theorem T176_ok : chkFn prog Tryz.f176 T176 = true := by kernel_rfl
def B176 (n_p0 : Value) (w : World) (K : Value → World → Prop) : Prop :=
  pvv prog (binOp .add 3 n_p0 (.int .i64 16)) w fun t_0 w =>
  pvv prog (binOp .quo 3 t_0 (.int .i64 8)) w fun t_1 w =>
  K t_1 w
theorem B176_eq (n_p0 : Value) (w : World) (K : Value → World → Prop) : denFn prog Tryz.f176 T176 [n_p0] w K = B176 n_p0 w K := by kernel_rfl
theorem c176 {n_p0 : Value} {w : World} {K : Value → World → Prop} (h : B176 n_p0 w K) : Calls prog 176 #[n_p0] w (Ret K) :=
  denFn_calls Tryz.func176 T176_ok (Eq.mpr (B176_eq n_p0 w K) h)

-- 70 strconv.FormatInt
def T70 : Ann := (.seq .none (.seq .none .none))
theorem T70_ok : chkFn prog Tryz.f70 T70 = true := by kernel_rfl
def B70 (i_p0 base_p1 : Value) (w : World) (K : Value → World → Prop) : Prop :=
  Calls prog 92 #[i_p0, base_p1] w (Ret fun t_0 w =>
  K t_0 w)
theorem B70_eq (i_p0 base_p1 : Value) (w : World) (K : Value → World → Prop) : denFn prog Tryz.f70 T70 [i_p0, base_p1] w K = B70 i_p0 base_p1 w K := by kernel_rfl
theorem c70 {i_p0 base_p1 : Value} {w : World} {K : Value → World → Prop} (h : B70 i_p0 base_p1 w K) : Calls prog 70 #[i_p0, base_p1] w (Ret K) :=
  denFn_calls Tryz.func70 T70_ok (Eq.mpr (B70_eq i_p0 base_p1 w K) h)

-- 184 internal/strconv.Itoa
def T184 : Ann := (.seq .none (.seq .none .none))
theorem T184_ok : chkFn prog Tryz.f184 T184 = true := by kernel_rfl
def B184 (i_p0 : Value) (w : World) (K : Value → World → Prop) : Prop :=
  Calls prog 92 #[i_p0, (.int .i64 10)] w (Ret fun t_0 w =>
  K t_0 w)
theorem B184_eq (i_p0 : Value) (w : World) (K : Value → World → Prop) : denFn prog Tryz.f184 T184 [i_p0] w K = B184 i_p0 w K := by kernel_rfl
theorem c184 {i_p0 : Value} {w : World} {K : Value → World → Prop} (h : B184 i_p0 w K) : Calls prog 184 #[i_p0] w (Ret K) :=
  denFn_calls Tryz.func184 T184_ok (Eq.mpr (B184_eq i_p0 w K) h)


end Go.Proofs.YtmnaalpjhkkglaaGreatDoor
