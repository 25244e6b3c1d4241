import Derived.Test.YtmnaalpjhkkglaaGreatDoorPI
set_option linter.all false
set_option maxRecDepth 100000
namespace Go.Proofs.YtmnaalpjhkkglaaGreatDoor
open Go Hold
-- 25 (holdfast/hash.words).mix
def T25 : Ann := (.seq .none (.seq .none (.seq (.seq .none (.block (.loop 324518553658426726783156020315904 [18] (.seq .none (.seq (.seq .none .none) (.meet 162259276829213363391578009241344 [] (.block (.seq .none (.seq (.seq .none (.seq (.seq (.draw [.op 0 .pure, .op 1 .pure, .op 2 .pure, .op 3 .pure, .op 4 .pure, .op 8 .pure, .op 9 .pure, .op 10 .pure, .op 11 .pure, .op 12 .pure, .op 17 .pure, .op 18 .pure, .op 19 .pure, .op 20 .pure, .op 21 .pure, .op 26 .pure, .op 27 .pure, .op 28 .pure, .op 29 .pure, .op 30 .pure, .op 5 .load, .op 6 .pure, .op 7 .pure, .op 13 .load, .op 14 .pure, .op 15 .pure, .op 16 .pure, .op 22 .load, .op 23 .pure, .op 24 .pure, .op 25 .pure, .op 31 .load, .op 32 .pure, .op 33 .pure, .op 34 .pure, .op 35 .eff]) .none) .none)) (.seq (.draw [.op 0 .pure, .op 1 .pure, .op 2 .pure, .op 5 .pure, .op 6 .pure, .op 7 .pure, .op 11 .pure, .op 12 .pure, .op 13 .pure, .op 3 .load, .op 8 .load, .op 14 .load, .op 15 .pure, .op 4 .eff, .op 9 .eff, .op 10 .pure, .op 16 .pure, .op 17 .pure]) (.seq (.draw [.op 0 .pure, .op 1 .pure, .op 2 .pure, .op 5 .pure, .op 6 .pure, .op 7 .pure, .op 11 .pure, .op 12 .pure, .op 13 .pure, .op 3 .load, .op 8 .load, .op 14 .load, .op 15 .pure, .op 4 .eff, .op 9 .eff, .op 10 .pure, .op 16 .pure, .op 17 .pure]) (.draw [.op 0 .pure, .op 1 .pure, .op 2 .pure, .op 3 .pure, .op 5 .pure, .op 7 .pure, .op 8 .pure, .op 9 .pure, .op 12 .pure, .op 4 .load, .op 6 .pure, .op 10 .load, .op 11 .pure, .op 13 .pure, .op 14 .pure, .op 15 .eff])))))) .none)))))) (.seq .none (.seq (.seq .none (.block (.loop 784637716923335095479473028863850985159340864245963288576 [109] (.seq .none (.seq (.seq .none .none) (.seq (.block (.seq .none (.seq (.draw [.op 0 .pure, .op 3 .pure, .op 7 .pure, .op 1 .load, .op 4 .load, .op 8 .load, .op 2 .eff, .op 5 .eff, .op 6 .pure, .op 9 .eff, .op 10 .pure, .op 11 .pure]) (.seq (.draw [.op 0 .pure, .op 2 .pure, .op 4 .pure, .op 6 .pure, .op 8 .pure, .op 10 .pure, .op 16 .pure, .op 17 .pure, .op 18 .pure, .op 19 .pure, .op 22 .pure, .op 23 .pure, .op 1 .load, .op 3 .pure, .op 5 .load, .op 7 .load, .op 9 .load, .op 11 .load, .op 12 .pure, .op 13 .pure, .op 14 .pure, .op 15 .pure, .op 20 .load, .op 21 .pure, .op 24 .load, .op 25 .pure, .op 26 .pure]) (.seq (.draw [.op 0 .pure, .op 3 .pure, .op 7 .pure, .op 1 .load, .op 4 .load, .op 8 .load, .op 2 .eff, .op 5 .eff, .op 6 .pure, .op 9 .eff, .op 10 .pure, .op 11 .pure]) (.seq .none (.seq (.draw [.op 0 .pure, .op 1 .pure, .op 2 .eff]) (.seq .none .none)))))))) .none)))))) (.seq (.seq .none (.block (.loop 3213091450801057215988444711004424246742393193135027666419712 [189] (.seq .none (.seq (.seq .none .none) (.seq (.block (.seq .none (.draw [.op 0 .pure, .op 1 .pure, .op 3 .pure, .op 4 .pure, .op 2 .load, .op 5 .load, .op 6 .pure, .op 7 .pure, .op 8 .eff]))) .none)))))) (.seq .none .none)))))))
theorem T25_ok : chkFn prog Tryz.f25 T25 = true := by kernel_rfl
def B25 (h_p0 k_p1 b_p2 : Value) (w : World) (K : Value → World → Prop) : Prop :=
  efv prog (Instr.box 76 h_p0) w fun h_0 w =>
  efv prog (Instr.alloc 76 true (.tuple #[])) w fun t_1 w =>
  efv prog (Instr.alloc 119 true (.tuple #[])) w fun w_2 w =>
  lp (fun σ w again_4 => pop σ fun t_3 σ => fin σ <|
    pvv prog (binOp .lss 3 t_3 (.int .i64 64)) w fun t_5 w =>
    cd t_5 (
      jn (fun σ w => fin σ <|
        pvv prog (binOp .add 3 t_3 (.int .i64 1)) w fun t_6 w =>
        again_4 [t_6] w) fun k_7 =>
      pvv prog (binOp .lss 3 t_3 (.int .i64 16)) w fun t_8 w =>
      cd t_8 (
        dr w fun w =>
        pvv prog (binOp .mul 3 (.int .i64 4) t_3) w fun t_9 w =>
        pvv prog (Instr.indexAt 22 b_p2 t_9) w fun t_10 w =>
        pvv prog (binOp .mul 3 (.int .i64 4) t_3) w fun t_11 w =>
        pvv prog (binOp .add 3 t_11 (.int .i64 1)) w fun t_12 w =>
        pvv prog (Instr.indexAt 22 b_p2 t_12) w fun t_13 w =>
        pvv prog (binOp .mul 3 (.int .i64 4) t_3) w fun t_14 w =>
        pvv prog (binOp .add 3 t_14 (.int .i64 2)) w fun t_15 w =>
        pvv prog (Instr.indexAt 22 b_p2 t_15) w fun t_16 w =>
        pvv prog (binOp .mul 3 (.int .i64 4) t_3) w fun t_17 w =>
        pvv prog (binOp .add 3 t_17 (.int .i64 3)) w fun t_18 w =>
        pvv prog (Instr.indexAt 22 b_p2 t_18) w fun t_19 w =>
        bindS (vN (Instr.loadAt 5 t_10)) fun m_21 => ldv prog (Instr.loadAt 5 t_10) w fun t_20 w =>
        pvv prog (convert 5 74 t_20) w fun t_22 w =>
        pvv prog (binOp .shl 74 t_22 (.int .u64 24)) w fun t_23 w =>
        bindS (vN (Instr.loadAt 5 t_13)) fun m_25 => ldv prog (Instr.loadAt 5 t_13) w fun t_24 w =>
        pvv prog (convert 5 74 t_24) w fun t_26 w =>
        pvv prog (binOp .shl 74 t_26 (.int .u64 16)) w fun t_27 w =>
        pvv prog (binOp .or 74 t_23 t_27) w fun t_28 w =>
        bindS (vN (Instr.loadAt 5 t_16)) fun m_30 => ldv prog (Instr.loadAt 5 t_16) w fun t_29 w =>
        pvv prog (convert 5 74 t_29) w fun t_31 w =>
        pvv prog (binOp .shl 74 t_31 (.int .u64 8)) w fun t_32 w =>
        pvv prog (binOp .or 74 t_28 t_32) w fun t_33 w =>
        bindS (vN (Instr.loadAt 5 t_19)) fun m_35 => ldv prog (Instr.loadAt 5 t_19) w fun t_34 w =>
        pvv prog (convert 5 74 t_34) w fun t_36 w =>
        pvv prog (binOp .or 74 t_33 t_36) w fun t_37 w =>
        pvv prog (Instr.indexAt 119 w_2 t_3) w fun t_38 w =>
        efu prog (Instr.storeAt 74 t_38 t_37) w fun u_39 w =>
        k_7 [] w) <|
      dr w fun w =>
      pvv prog (binOp .sub 3 t_3 (.int .i64 15)) w fun t_41 w =>
      pvv prog (Instr.indexAt 119 w_2 t_41) w fun t_42 w =>
      pvv prog (binOp .sub 3 t_3 (.int .i64 15)) w fun t_43 w =>
      pvv prog (Instr.indexAt 119 w_2 t_43) w fun t_44 w =>
      pvv prog (binOp .sub 3 t_3 (.int .i64 15)) w fun t_45 w =>
      pvv prog (Instr.indexAt 119 w_2 t_45) w fun t_46 w =>
      bindS (vN (Instr.loadAt 74 t_42)) fun m_48 => ldv prog (Instr.loadAt 74 t_42) w fun t_47 w =>
      bindS (vN (Instr.loadAt 74 t_44)) fun m_50 => ldv prog (Instr.loadAt 74 t_44) w fun t_49 w =>
      bindS (vN (Instr.loadAt 74 t_46)) fun m_52 => ldv prog (Instr.loadAt 74 t_46) w fun t_51 w =>
      pvv prog (binOp .shr 74 t_51 (.int .u64 3)) w fun t_53 w =>
      Calls prog 49 #[t_47, (.int .i64 (-7))] w (Ret fun t_54 w => stay prog none m_52 t_51 w <| stay prog none m_50 t_49 w <| 
      Calls prog 49 #[t_49, (.int .i64 (-18))] w (Ret fun t_55 w => stay prog none m_52 t_51 w <| stay prog none m_48 t_47 w <| 
      pvv prog (binOp .xor 74 t_54 t_55) w fun t_56 w =>
      pvv prog (binOp .xor 74 t_56 t_53) w fun t_57 w =>
      dr w fun w =>
      pvv prog (binOp .sub 3 t_3 (.int .i64 2)) w fun t_58 w =>
      pvv prog (Instr.indexAt 119 w_2 t_58) w fun t_59 w =>
      pvv prog (binOp .sub 3 t_3 (.int .i64 2)) w fun t_60 w =>
      pvv prog (Instr.indexAt 119 w_2 t_60) w fun t_61 w =>
      pvv prog (binOp .sub 3 t_3 (.int .i64 2)) w fun t_62 w =>
      pvv prog (Instr.indexAt 119 w_2 t_62) w fun t_63 w =>
      bindS (vN (Instr.loadAt 74 t_59)) fun m_65 => ldv prog (Instr.loadAt 74 t_59) w fun t_64 w =>
      bindS (vN (Instr.loadAt 74 t_61)) fun m_67 => ldv prog (Instr.loadAt 74 t_61) w fun t_66 w =>
      bindS (vN (Instr.loadAt 74 t_63)) fun m_69 => ldv prog (Instr.loadAt 74 t_63) w fun t_68 w =>
      pvv prog (binOp .shr 74 t_68 (.int .u64 10)) w fun t_70 w =>
      Calls prog 49 #[t_64, (.int .i64 (-17))] w (Ret fun t_71 w => stay prog none m_69 t_68 w <| stay prog none m_67 t_66 w <| 
      Calls prog 49 #[t_66, (.int .i64 (-19))] w (Ret fun t_72 w => stay prog none m_69 t_68 w <| stay prog none m_65 t_64 w <| 
      pvv prog (binOp .xor 74 t_71 t_72) w fun t_73 w =>
      pvv prog (binOp .xor 74 t_73 t_70) w fun t_74 w =>
      dr w fun w =>
      pvv prog (binOp .sub 3 t_3 (.int .i64 16)) w fun t_75 w =>
      pvv prog (Instr.indexAt 119 w_2 t_75) w fun t_76 w =>
      pvv prog (binOp .sub 3 t_3 (.int .i64 7)) w fun t_77 w =>
      pvv prog (Instr.indexAt 119 w_2 t_77) w fun t_78 w =>
      bindS (vN (Instr.loadAt 74 t_76)) fun m_80 => ldv prog (Instr.loadAt 74 t_76) w fun t_79 w =>
      pvv prog (binOp .add 74 t_79 t_57) w fun t_81 w =>
      bindS (vN (Instr.loadAt 74 t_78)) fun m_83 => ldv prog (Instr.loadAt 74 t_78) w fun t_82 w =>
      pvv prog (binOp .add 74 t_81 t_82) w fun t_84 w =>
      pvv prog (binOp .add 74 t_84 t_74) w fun t_85 w =>
      pvv prog (Instr.indexAt 119 w_2 t_3) w fun t_86 w =>
      efu prog (Instr.storeAt 74 t_86 t_85) w fun u_87 w =>
      k_7 [] w))))) <|
    ldv prog (Instr.loadAt 76 h_0) w fun t_93 w =>
    efv prog (Instr.alloc 76 true (.tuple #[])) w fun v_94 w =>
    efu prog (Instr.storeAt 76 v_94 t_93) w fun u_95 w =>
    lp (fun σ w again_97 => pop σ fun t_96 σ => fin σ <|
      pvv prog (binOp .lss 3 t_96 (.int .i64 64)) w fun t_98 w =>
      cd t_98 (
        dr w fun w =>
        pvv prog (Instr.indexAt 76 v_94 (.int .i64 4)) w fun t_99 w =>
        pvv prog (Instr.indexAt 76 v_94 (.int .i64 4)) w fun t_100 w =>
        pvv prog (Instr.indexAt 76 v_94 (.int .i64 4)) w fun t_101 w =>
        bindS (vN (Instr.loadAt 74 t_99)) fun m_103 => ldv prog (Instr.loadAt 74 t_99) w fun t_102 w =>
        bindS (vN (Instr.loadAt 74 t_100)) fun m_105 => ldv prog (Instr.loadAt 74 t_100) w fun t_104 w =>
        bindS (vN (Instr.loadAt 74 t_101)) fun m_107 => ldv prog (Instr.loadAt 74 t_101) w fun t_106 w =>
        Calls prog 49 #[t_102, (.int .i64 (-6))] w (Ret fun t_108 w => stay prog none m_107 t_106 w <| stay prog none m_105 t_104 w <| 
        Calls prog 49 #[t_104, (.int .i64 (-11))] w (Ret fun t_109 w => stay prog none m_107 t_106 w <| stay prog none m_103 t_102 w <| 
        pvv prog (binOp .xor 74 t_108 t_109) w fun t_110 w =>
        Calls prog 49 #[t_106, (.int .i64 (-25))] w (Ret fun t_111 w => stay prog none m_105 t_104 w <| stay prog none m_103 t_102 w <| 
        pvv prog (binOp .xor 74 t_110 t_111) w fun t_112 w =>
        dr w fun w =>
        pvv prog (Instr.indexAt 76 v_94 (.int .i64 7)) w fun t_113 w =>
        pvv prog (Instr.indexAt 76 v_94 (.int .i64 6)) w fun t_114 w =>
        pvv prog (Instr.indexAt 76 v_94 (.int .i64 4)) w fun t_115 w =>
        pvv prog (Instr.indexAt 76 v_94 (.int .i64 5)) w fun t_116 w =>
        pvv prog (Instr.indexAt 76 v_94 (.int .i64 6)) w fun t_117 w =>
        pv prog (oNil k_p1) w fun t_118 w =>
        pvv prog (Instr.indexAt 119 t_118 t_96) w fun t_119 w =>
        pvv prog (Instr.indexAt 119 w_2 t_96) w fun t_120 w =>
        bindS (vN (Instr.loadAt 74 t_113)) fun m_122 => ldv prog (Instr.loadAt 74 t_113) w fun t_121 w =>
        pvv prog (binOp .add 74 t_121 t_112) w fun t_123 w =>
        bindS (vN (Instr.loadAt 74 t_114)) fun m_125 => ldv prog (Instr.loadAt 74 t_114) w fun t_124 w =>
        bindS (vN (Instr.loadAt 74 t_115)) fun m_127 => ldv prog (Instr.loadAt 74 t_115) w fun t_126 w =>
        bindS (vN (Instr.loadAt 74 t_116)) fun m_129 => ldv prog (Instr.loadAt 74 t_116) w fun t_128 w =>
        bindS (vN (Instr.loadAt 74 t_117)) fun m_131 => ldv prog (Instr.loadAt 74 t_117) w fun t_130 w =>
        pvv prog (binOp .xor 74 t_128 t_130) w fun t_132 w =>
        pvv prog (binOp .and 74 t_126 t_132) w fun t_133 w =>
        pvv prog (binOp .xor 74 t_124 t_133) w fun t_134 w =>
        pvv prog (binOp .add 74 t_123 t_134) w fun t_135 w =>
        bindS (vN (Instr.loadAt 74 t_119)) fun m_137 => ldv prog (Instr.loadAt 74 t_119) w fun t_136 w =>
        pvv prog (binOp .add 74 t_135 t_136) w fun t_138 w =>
        bindS (vN (Instr.loadAt 74 t_120)) fun m_140 => ldv prog (Instr.loadAt 74 t_120) w fun t_139 w =>
        pvv prog (binOp .add 74 t_138 t_139) w fun t_141 w =>
        dr w fun w =>
        pvv prog (Instr.indexAt 76 v_94 (.int .i64 0)) w fun t_142 w =>
        pvv prog (Instr.indexAt 76 v_94 (.int .i64 0)) w fun t_143 w =>
        pvv prog (Instr.indexAt 76 v_94 (.int .i64 0)) w fun t_144 w =>
        bindS (vN (Instr.loadAt 74 t_142)) fun m_146 => ldv prog (Instr.loadAt 74 t_142) w fun t_145 w =>
        bindS (vN (Instr.loadAt 74 t_143)) fun m_148 => ldv prog (Instr.loadAt 74 t_143) w fun t_147 w =>
        bindS (vN (Instr.loadAt 74 t_144)) fun m_150 => ldv prog (Instr.loadAt 74 t_144) w fun t_149 w =>
        Calls prog 49 #[t_145, (.int .i64 (-2))] w (Ret fun t_151 w => stay prog none m_150 t_149 w <| stay prog none m_148 t_147 w <| 
        Calls prog 49 #[t_147, (.int .i64 (-13))] w (Ret fun t_152 w => stay prog none m_150 t_149 w <| stay prog none m_146 t_145 w <| 
        pvv prog (binOp .xor 74 t_151 t_152) w fun t_153 w =>
        Calls prog 49 #[t_149, (.int .i64 (-22))] w (Ret fun t_154 w => stay prog none m_148 t_147 w <| stay prog none m_146 t_145 w <| 
        pvv prog (binOp .xor 74 t_153 t_154) w fun t_155 w =>
        pvv prog (Instr.indexAt 76 v_94 (.int .i64 0)) w fun t_156 w =>
        ldv prog (Instr.loadAt 74 t_156) w fun t_157 w =>
        pvv prog (Instr.indexAt 76 v_94 (.int .i64 1)) w fun t_158 w =>
        ldv prog (Instr.loadAt 74 t_158) w fun t_159 w =>
        pvv prog (binOp .and 74 t_157 t_159) w fun t_160 w =>
        pvv prog (Instr.indexAt 76 v_94 (.int .i64 2)) w fun t_161 w =>
        ldv prog (Instr.loadAt 74 t_161) w fun t_162 w =>
        pvv prog (Instr.indexAt 76 v_94 (.int .i64 0)) w fun t_163 w =>
        ldv prog (Instr.loadAt 74 t_163) w fun t_164 w =>
        pvv prog (Instr.indexAt 76 v_94 (.int .i64 1)) w fun t_165 w =>
        ldv prog (Instr.loadAt 74 t_165) w fun t_166 w =>
        pvv prog (binOp .or 74 t_164 t_166) w fun t_167 w =>
        pvv prog (binOp .and 74 t_162 t_167) w fun t_168 w =>
        pvv prog (binOp .or 74 t_160 t_168) w fun t_169 w =>
        pvv prog (binOp .add 74 t_155 t_169) w fun t_170 w =>
        dr w fun w =>
        pvv prog (Instr.sliceAt 76 v_94 (some (.int .i64 1)) none none) w fun t_171 w =>
        pvv prog (Instr.sliceAt 76 v_94 none (some (.int .i64 7)) none) w fun t_172 w =>
        ef prog (oBi .copy #[121, 121] 3 #[false, false] #[t_171, t_172]) w fun t_173 w =>
        pvv prog (Instr.indexAt 76 v_94 (.int .i64 4)) w fun t_174 w =>
        ldv prog (Instr.loadAt 74 t_174) w fun t_175 w =>
        pvv prog (binOp .add 74 t_175 t_141) w fun t_176 w =>
        pvv prog (Instr.indexAt 76 v_94 (.int .i64 4)) w fun t_177 w =>
        efu prog (Instr.storeAt 74 t_177 t_176) w fun u_178 w =>
        pvv prog (binOp .add 74 t_141 t_170) w fun t_179 w =>
        pvv prog (Instr.indexAt 76 v_94 (.int .i64 0)) w fun t_180 w =>
        efu prog (Instr.storeAt 74 t_180 t_179) w fun u_181 w =>
        pvv prog (binOp .add 3 t_96 (.int .i64 1)) w fun t_182 w =>
        again_97 [t_182] w))))))) <|
      lp (fun σ w again_191 => pop σ fun t_190 σ => fin σ <|
        pvv prog (binOp .lss 3 t_190 (.int .i64 8)) w fun t_192 w =>
        cd t_192 (
          dr w fun w =>
          pvv prog (Instr.indexAt 76 h_0 t_190) w fun t_193 w =>
          pvv prog (Instr.indexAt 76 v_94 t_190) w fun t_194 w =>
          bindS (vN (Instr.loadAt 74 t_193)) fun m_196 => ldv prog (Instr.loadAt 74 t_193) w fun t_195 w =>
          bindS (vN (Instr.loadAt 74 t_194)) fun m_198 => ldv prog (Instr.loadAt 74 t_194) w fun t_197 w =>
          pvv prog (binOp .add 74 t_195 t_197) w fun t_199 w =>
          pvv prog (Instr.indexAt 76 h_0 t_190) w fun t_200 w =>
          efu prog (Instr.storeAt 74 t_200 t_199) w fun u_201 w =>
          pvv prog (binOp .add 3 t_190 (.int .i64 1)) w fun t_202 w =>
          again_191 [t_202] w) <|
        ldv prog (Instr.loadAt 76 h_0) w fun t_204 w =>
        efu prog (Instr.storeAt 76 t_1 t_204) w fun u_205 w =>
        ∃ r_206, (do loadVar 76 (← asAddr t_1)).run prog w = .ok r_206 w ∧ K r_206 w) [(.int .i64 0)] w) [(.int .i64 0)] w) [(.int .i64 0)] w
theorem B25_eq (h_p0 k_p1 b_p2 : Value) (w : World) (K : Value → World → Prop) : denFn prog Tryz.f25 T25 [h_p0, k_p1, b_p2] w K = B25 h_p0 k_p1 b_p2 w K := by kernel_rfl
theorem c25 {h_p0 k_p1 b_p2 : Value} {w : World} {K : Value → World → Prop} (h : B25 h_p0 k_p1 b_p2 w K) : Calls prog 25 #[h_p0, k_p1, b_p2] w (Ret K) :=
  denFn_calls Tryz.func25 T25_ok (Eq.mpr (B25_eq h_p0 k_p1 b_p2 w K) h)

-- 10 (*holdfast/audit.Chain).Rows
def T10 : Ann := (.seq .none (.seq (.seq .none (.seq (.seq .none .none) .none)) (.seq (.draw [.op 0 .pure, .op 1 .pure, .op 2 .pure, .op 3 .pure, .op 6 .pure, .op 7 .pure, .op 8 .pure, .op 9 .pure, .op 12 .pure, .op 13 .pure, .op 14 .pure, .op 19 .pure, .op 20 .pure, .op 21 .pure, .op 22 .pure, .op 23 .pure, .op 27 .pure, .op 28 .pure, .op 29 .pure, .op 30 .pure, .op 31 .pure, .op 35 .pure, .op 36 .pure, .op 37 .pure, .op 38 .pure, .op 4 .load, .op 10 .load, .op 15 .load, .par [⟨5, .eff, (some 13), []⟩, ⟨24, .eff, (some 32), []⟩, ⟨32, .eff, (some 40), []⟩, ⟨39, .eff, (some 47), []⟩, ⟨11, .eff, (some 19), []⟩, ⟨16, .eff, (some 24), []⟩, ⟨17, .eff, (some 25), [(0, some 13), (4, some 19), (5, some 24)]⟩, ⟨18, .pure, (some 26), [(6, some 25)]⟩, ⟨25, .eff, (some 33), [(1, some 32)]⟩, ⟨26, .pure, (some 34), [(8, some 33)]⟩, ⟨33, .eff, (some 41), [(2, some 40)]⟩, ⟨34, .pure, (some 42), [(10, some 41)]⟩, ⟨40, .eff, (some 48), [(3, some 47)]⟩, ⟨41, .pure, (some 49), [(12, some 48)]⟩], .op 42 .eff, .op 43 .pure]) (.seq (.seq .none (.block (.loop 151115655394234608910376 [3, 56] (.seq .none (.seq (.seq .none .none) (.seq (.block (.seq .none (.draw [.op 0 .pure, .op 1 .pure, .op 5 .pure, .op 8 .pure, .op 10 .pure, .op 2 .load, .op 6 .load, .op 9 .load, .op 11 .load, .op 3 .eff, .op 4 .pure, .op 7 .eff, .op 12 .eff, .op 13 .pure, .op 14 .eff, .op 15 .eff, .op 16 .pure]))) .none)))))) (.seq .none .none)))))
theorem T10_ok : chkFn prog Tryz.f10 T10 = true := by kernel_rfl
def B10 (c_p0 : Value) (w : World) (K : Value → World → Prop) : Prop :=
  pvv prog (oEq .eql 23 (.tmp 6) (.const (.pointer none)) c_p0 (.pointer none)) w fun t_0 w =>
  cd t_0 (
    K (.slice none 0 0) w) <|
  dr w fun w =>
  pv prog (oNil c_p0) w fun t_1 w =>
  pvv prog (Instr.fieldAt 69 t_1 0) w fun t_2 w =>
  pvv prog (Instr.fieldAt 66 t_2 0) w fun t_3 w =>
  pv prog (oNil c_p0) w fun t_4 w =>
  pvv prog (Instr.fieldAt 69 t_4 1) w fun t_5 w =>
  pvv prog (Instr.fieldAt 66 t_5 0) w fun t_6 w =>
  pv prog (oNil c_p0) w fun t_7 w =>
  pvv prog (Instr.fieldAt 69 t_7 3) w fun t_8 w =>
  pv prog (oNil c_p0) w fun t_9 w =>
  pvv prog (Instr.fieldAt 69 t_9 1) w fun t_10 w =>
  pvv prog (Instr.fieldAt 66 t_10 1) w fun t_11 w =>
  pvv prog (Instr.sliceAt 28 t_11 none none none) w fun t_12 w =>
  pv prog (oNil c_p0) w fun t_13 w =>
  pvv prog (Instr.fieldAt 69 t_13 0) w fun t_14 w =>
  pvv prog (Instr.fieldAt 66 t_14 1) w fun t_15 w =>
  pvv prog (Instr.sliceAt 28 t_15 none none none) w fun t_16 w =>
  pv prog (oNil c_p0) w fun t_17 w =>
  pvv prog (Instr.fieldAt 69 t_17 2) w fun t_18 w =>
  pvv prog (Instr.sliceAt 28 t_18 none none none) w fun t_19 w =>
  bindS (vN (Instr.loadAt 3 t_3)) fun m_21 => ldv prog (Instr.loadAt 3 t_3) w fun t_20 w =>
  bindS (vN (Instr.loadAt 3 t_6)) fun m_23 => ldv prog (Instr.loadAt 3 t_6) w fun t_22 w =>
  bindS (vN (Instr.loadAt 3 t_8)) fun m_25 => ldv prog (Instr.loadAt 3 t_8) w fun t_24 w =>
  par 14 w fun J_26 =>
    (∀ (σ : List (Option Value)) (w : World), J_26 σ w → un σ 0 (Calls prog 30 #[t_20] w (Ret fun v_27 w => stay prog none m_25 t_24 w <| stay prog none m_23 t_22 w <| J_26 (σ.set 0 (some v_27)) w))) ∧
    (∀ (σ : List (Option Value)) (w : World), J_26 σ w → un σ 1 (efv prog (convert 22 9 t_12) w fun v_28 w => stay prog none m_25 t_24 w <| stay prog none m_23 t_22 w <| stay prog none m_21 t_20 w <| J_26 (σ.set 1 (some v_28)) w)) ∧
    (∀ (σ : List (Option Value)) (w : World), J_26 σ w → un σ 2 (efv prog (convert 22 9 t_16) w fun v_29 w => stay prog none m_25 t_24 w <| stay prog none m_23 t_22 w <| stay prog none m_21 t_20 w <| J_26 (σ.set 2 (some v_29)) w)) ∧
    (∀ (σ : List (Option Value)) (w : World), J_26 σ w → un σ 3 (efv prog (convert 22 9 t_19) w fun v_30 w => stay prog none m_25 t_24 w <| stay prog none m_23 t_22 w <| stay prog none m_21 t_20 w <| J_26 (σ.set 3 (some v_30)) w)) ∧
    (∀ (σ : List (Option Value)) (w : World), J_26 σ w → un σ 4 (Calls prog 30 #[t_22] w (Ret fun v_31 w => stay prog none m_25 t_24 w <| stay prog none m_21 t_20 w <| J_26 (σ.set 4 (some v_31)) w))) ∧
    (∀ (σ : List (Option Value)) (w : World), J_26 σ w → un σ 5 (Calls prog 30 #[t_24] w (Ret fun v_32 w => stay prog none m_23 t_22 w <| stay prog none m_21 t_20 w <| J_26 (σ.set 5 (some v_32)) w))) ∧
    (∀ (σ : List (Option Value)) (w : World), J_26 σ w → un σ 6 (is σ 0 fun t_33 => is σ 4 fun t_34 => is σ 5 fun t_35 => efv prog (Instr.buildSlice 39 3 #[(0, t_33), (1, t_34), (2, t_35)]) w fun v_36 w => stay prog none m_25 t_24 w <| stay prog none m_23 t_22 w <| stay prog none m_21 t_20 w <| J_26 (σ.set 6 (some v_36)) w)) ∧
    (∀ (σ : List (Option Value)) (w : World), J_26 σ w → un σ 7 (is σ 6 fun t_37 => pvv prog (Instr.build 41 #[(0, (.string ⟨#[35]⟩)), (1, t_37)]) w fun v_38 w => J_26 (σ.set 7 (some v_38)) w)) ∧
    (∀ (σ : List (Option Value)) (w : World), J_26 σ w → un σ 8 (is σ 1 fun t_39 => efv prog (Instr.buildSlice 39 1 #[(0, t_39)]) w fun v_40 w => stay prog none m_25 t_24 w <| stay prog none m_23 t_22 w <| stay prog none m_21 t_20 w <| J_26 (σ.set 8 (some v_40)) w)) ∧
    (∀ (σ : List (Option Value)) (w : World), J_26 σ w → un σ 9 (is σ 8 fun t_41 => pvv prog (Instr.build 41 #[(0, (.string ⟨#[97]⟩)), (1, t_41)]) w fun v_42 w => J_26 (σ.set 9 (some v_42)) w)) ∧
    (∀ (σ : List (Option Value)) (w : World), J_26 σ w → un σ 10 (is σ 2 fun t_43 => efv prog (Instr.buildSlice 39 1 #[(0, t_43)]) w fun v_44 w => stay prog none m_25 t_24 w <| stay prog none m_23 t_22 w <| stay prog none m_21 t_20 w <| J_26 (σ.set 10 (some v_44)) w)) ∧
    (∀ (σ : List (Option Value)) (w : World), J_26 σ w → un σ 11 (is σ 10 fun t_45 => pvv prog (Instr.build 41 #[(0, (.string ⟨#[98]⟩)), (1, t_45)]) w fun v_46 w => J_26 (σ.set 11 (some v_46)) w)) ∧
    (∀ (σ : List (Option Value)) (w : World), J_26 σ w → un σ 12 (is σ 3 fun t_47 => efv prog (Instr.buildSlice 39 1 #[(0, t_47)]) w fun v_48 w => stay prog none m_25 t_24 w <| stay prog none m_23 t_22 w <| stay prog none m_21 t_20 w <| J_26 (σ.set 12 (some v_48)) w)) ∧
    (∀ (σ : List (Option Value)) (w : World), J_26 σ w → un σ 13 (is σ 12 fun t_49 => pvv prog (Instr.build 41 #[(0, (.string ⟨#[104]⟩)), (1, t_49)]) w fun v_50 w => J_26 (σ.set 13 (some v_50)) w)) ∧
    ∀ (σ : List (Option Value)) (w : World), J_26 σ w → is σ 0 fun t_51 => is σ 1 fun t_52 => is σ 2 fun t_53 => is σ 3 fun t_54 => is σ 4 fun t_55 => is σ 5 fun t_56 => is σ 6 fun t_57 => is σ 7 fun t_58 => is σ 8 fun t_59 => is σ 9 fun t_60 => is σ 10 fun t_61 => is σ 11 fun t_62 => is σ 12 fun t_63 => is σ 13 fun t_64 => 
    efv prog (Instr.buildSlice 37 4 #[(0, t_58), (1, t_60), (2, t_62), (3, t_64)]) w fun t_65 w => stay prog none m_25 t_24 w <| stay prog none m_23 t_22 w <| stay prog none m_21 t_20 w <| 
    pv prog (oNil c_p0) w fun t_66 w =>
    pvv prog (Instr.fieldAt 69 t_66 4) w fun t_67 w =>
    ldv prog (Instr.loadAt 67 t_67) w fun t_68 w =>
    pv prog (oBi .len #[67] 3 #[false] #[t_68]) w fun t_69 w =>
    lp (fun σ w again_72 => pop σ fun out_70 σ => pop σ fun t_71 σ => fin σ <|
      pvv prog (binOp .lss 3 t_71 t_69) w fun t_73 w =>
      cd t_73 (
        pvv prog (Instr.indexAt 67 t_68 t_71) w fun t_74 w =>
        ldv prog (Instr.loadAt 31 t_74) w fun t_75 w =>
        efv prog (Instr.alloc 31 true (.tuple #[])) w fun x_76 w =>
        efu prog (Instr.storeAt 31 x_76 t_75) w fun u_77 w =>
        dr w fun w =>
        pvv prog (Instr.fieldAt 31 x_76 0) w fun t_78 w =>
        pvv prog (Instr.fieldAt 31 x_76 1) w fun t_79 w =>
        pvv prog (Instr.fieldAt 31 x_76 2) w fun t_80 w =>
        pvv prog (Instr.fieldAt 31 x_76 3) w fun t_81 w =>
        bindS (vN (Instr.loadAt 3 t_78)) fun m_83 => ldv prog (Instr.loadAt 3 t_78) w fun t_82 w =>
        bindS (vN (Instr.loadAt 3 t_79)) fun m_85 => ldv prog (Instr.loadAt 3 t_79) w fun t_84 w =>
        bindS (vN (Instr.loadAt 9 t_80)) fun m_87 => ldv prog (Instr.loadAt 9 t_80) w fun t_86 w =>
        bindS (vN (Instr.loadAt 9 t_81)) fun m_89 => ldv prog (Instr.loadAt 9 t_81) w fun t_88 w =>
        Calls prog 30 #[t_82] w (Ret fun t_90 w => stay prog none m_89 t_88 w <| stay prog none m_87 t_86 w <| stay prog none m_85 t_84 w <| 
        pvv prog (binOp .add 9 (.string ⟨#[110]⟩) t_90) w fun t_91 w =>
        Calls prog 30 #[t_84] w (Ret fun t_92 w => stay prog none m_89 t_88 w <| stay prog none m_87 t_86 w <| stay prog none m_83 t_82 w <| 
        efv prog (Instr.buildSlice 39 3 #[(0, t_92), (1, t_86), (2, t_88)]) w fun t_93 w => stay prog none m_85 t_84 w <| stay prog none m_83 t_82 w <| 
        pvv prog (Instr.build 41 #[(0, t_91), (1, t_93)]) w fun t_94 w =>
        efv prog (Instr.buildSlice 37 1 #[(0, t_94)]) w fun t_95 w => stay prog none m_89 t_88 w <| stay prog none m_87 t_86 w <| stay prog none m_85 t_84 w <| stay prog none m_83 t_82 w <| 
        ef prog (oBi .append #[37, 37] 37 #[false, false] #[out_70, t_95]) w fun t_96 w => stay prog none m_89 t_88 w <| stay prog none m_87 t_86 w <| stay prog none m_85 t_84 w <| stay prog none m_83 t_82 w <| 
        pvv prog (binOp .add 3 t_71 (.int .i64 1)) w fun t_97 w =>
        again_72 [t_96, t_97] w))) <|
      K out_70 w) [t_65, (.int .i64 0)] w
theorem B10_eq (c_p0 : Value) (w : World) (K : Value → World → Prop) : denFn prog Tryz.f10 T10 [c_p0] w K = B10 c_p0 w K := by kernel_rfl
theorem c10 {c_p0 : Value} {w : World} {K : Value → World → Prop} (h : B10 c_p0 w K) : Calls prog 10 #[c_p0] w (Ret K) :=
  denFn_calls Tryz.func10 T10_ok (Eq.mpr (B10_eq c_p0 w K) h)

-- 4 holdfast/holdfasttop.TopBooked
def T4 : Ann := (.seq .none (.seq .none (.seq (.seq .none (.seq (.seq .none .none) .none)) (.seq .none (.seq (.seq .none (.seq .none (.seq (.seq .none .none) .none))) (.seq .none (.seq (.seq .none (.block (.loop 5316911983139663491614102341215583248 [10] (.seq (.seq .none (.seq .none .none)) (.seq (.block (.seq .none (.block (.loop 5316911983139663491543170647084496912 [11] (.seq (.seq .none (.seq .none .none)) (.seq (.block (.seq .none (.seq (.seq .none (.block (.loop 617761093823075508274872320 [14] (.seq (.seq .none (.seq .none .none)) (.seq (.block .none) .none))))) (.seq .none (.seq .none (.seq (.seq .none (.seq (.seq .none .none) .none)) (.draw [.op 0 .pure, .op 1 .pure, .op 2 .pure, .op 3 .pure, .op 5 .pure, .op 6 .pure, .op 4 .load, .op 7 .eff, .op 8 .pure, .op 9 .eff]))))))) .none)))))) .none))))) (.seq .none (.seq .none .none)))))))))
theorem T4_ok : chkFn prog Tryz.f4 T4 = true := by kernel_rfl
def B4 (password_p0 n_p1 : Value) (w : World) (K : Value → World → Prop) : Prop :=
  Calls prog 16 #[] w (Ret fun t_0 w =>
  efv prog (Instr.buildSlice 22 4 #[(0, (.int .u8 114)), (1, (.int .u8 111)), (2, (.int .u8 111)), (3, (.int .u8 116))]) w fun t_1 w =>
  efv prog (convert 22 22 t_1) w fun t_2 w =>
  Calls prog 7 #[t_2] w (Ret fun t_3 w =>
  Calls prog 6 #[t_3] w (Ret fun t_4 w =>
  pvv prog (oEq .eql 51 (.tmp 27) (.const (.pointer none)) t_0 (.pointer none)) w fun t_5 w =>
  gate (some (t_5, false)) (fun K => K t_4 w) w fun t_6 w =>
  gate (some (t_5, false)) (fun K => pvv prog (oEq .eql 25 (.tmp 30) (.const (.pointer none)) t_6 (.pointer none)) w K) w fun t_7 w =>
  pv prog (oPick t_5 (.bool true) t_7) w fun t_8 w =>
  cd t_8 (
    K (.bool false) w) <|
  pvv prog (Instr.build 54 #[(0, (.string ⟨#[116]⟩)), (1, (.string ⟨#[117]⟩))]) w fun t_9 w =>
  efv prog (Instr.alloc 54 true (.tuple #[])) w fun o_10 w =>
  efu prog (Instr.storeAt 54 o_10 t_9) w fun u_11 w =>
  ldv prog (Instr.loadAt 54 o_10) w fun t_12 w =>
  Calls prog 17 #[t_0, t_12, password_p0, (.string ⟨#[115, 97, 108, 116]⟩), (.int .i64 2)] w (Ret fun t_13 w =>
  pvv prog (oEq .neq 32 (.tmp 38) (.const (.int .i64 0)) t_13 (.int .i64 0)) w fun t_14 w =>
  cd t_14 (
    pvv prog (oEq .eql 32 (.tmp 40) (.const (.int .i64 6)) t_13 (.int .i64 6)) w fun t_15 w =>
    gate (some (t_15, true)) (fun K => K t_0 w) w fun t_16 w =>
    gate (some (t_15, true)) (fun K => Calls prog 18 #[t_16] w (Ret K)) w fun t_17 w =>
    gate (some (t_15, true)) (fun K => pv prog (oBi .len #[37] 3 #[false] #[t_17]) w K) w fun t_18 w =>
    gate (some (t_15, true)) (fun K => pvv prog (oEq .eql 3 (.tmp 45) (.const (.int .i64 0)) t_18 (.int .i64 0)) w K) w fun t_19 w =>
    pv prog (oPick t_15 t_19 (.bool false)) w fun t_20 w =>
    K t_20 w) <|
  Calls prog 18 #[t_0] w (Ret fun t_21 w =>
  lp (fun σ w again_23 => pop σ fun i_22 σ => fin σ <|
    pv prog (oBi .len #[37] 3 #[false] #[t_21]) w fun t_24 w =>
    pvv prog (binOp .lss 3 i_22 t_24) w fun t_25 w =>
    cd t_25 (
      lp (fun σ w again_27 => pop σ fun k_26 σ => fin σ <|
        pvv prog (Instr.indexAt 37 t_21 i_22) w fun t_28 w =>
        pvv prog (Instr.fieldAt 41 t_28 1) w fun t_29 w =>
        ldv prog (Instr.loadAt 39 t_29) w fun t_30 w =>
        pv prog (oBi .len #[39] 3 #[false] #[t_30]) w fun t_31 w =>
        pvv prog (binOp .lss 3 k_26 t_31) w fun t_32 w =>
        cd t_32 (
          pvv prog (Instr.indexAt 37 t_21 i_22) w fun t_33 w =>
          pvv prog (Instr.fieldAt 41 t_33 1) w fun t_34 w =>
          ldv prog (Instr.loadAt 39 t_34) w fun t_35 w =>
          pvv prog (Instr.indexAt 39 t_35 k_26) w fun t_36 w =>
          ldv prog (Instr.loadAt 9 t_36) w fun t_37 w =>
          efv prog (convert 9 22 t_37) w fun t_38 w =>
          Calls prog 11 #[t_4, (.string ⟨#[116]⟩), (.string ⟨#[114, 111, 119, 115]⟩), t_38] w (Ret fun t_39 w =>
          pvv prog (Instr.extract t_39 0) w fun t_40 w =>
          pvv prog (Instr.extract t_39 1) w fun t_41 w =>
          lp (fun σ w again_43 => pop σ fun j_42 σ => fin σ <|
            pvv prog (convert 5 3 n_p1) w fun t_44 w =>
            pvv prog (binOp .rem 3 t_44 (.int .i64 15)) w fun t_45 w =>
            pvv prog (binOp .lss 3 j_42 t_45) w fun t_46 w =>
            cd t_46 (
              Calls prog 19 #[t_4, (.string ⟨#[116]⟩), (.string ⟨#[114, 111, 119, 115]⟩)] w (Ret fun t_47 w =>
              pvv prog (binOp .add 3 j_42 (.int .i64 1)) w fun t_48 w =>
              again_43 [t_48] w)) <|
            Calls prog 20 #[t_4, (.string ⟨#[116]⟩), (.string ⟨#[114, 111, 119, 115]⟩), t_40] w (Ret fun t_49 w =>
            pvv prog (Instr.extract t_49 0) w fun t_50 w =>
            pvv prog (Instr.extract t_49 1) w fun t_51 w =>
            pvv prog (Instr.extract t_49 2) w fun t_52 w =>
            Calls prog 12 #[t_4, (.string ⟨#[116]⟩), (.string ⟨#[114, 111, 119, 115]⟩), t_50] w (Ret fun t_53 w =>
            pvv prog (Instr.extract t_53 0) w fun t_54 w =>
            pvv prog (Instr.extract t_53 1) w fun t_55 w =>
            pvv prog (Instr.extract t_53 2) w fun t_56 w =>
            pvv prog (oEq .neq 32 (.tmp 103) (.const (.int .i64 0)) t_41 (.int .i64 0)) w fun t_57 w =>
            gate (some (t_57, false)) (fun K => K t_52 w) w fun t_58 w =>
            gate (some (t_57, false)) (fun K => pvv prog (oEq .neq 32 (.tmp 106) (.const (.int .i64 0)) t_58 (.int .i64 0)) w K) w fun t_59 w =>
            pv prog (oPick t_57 (.bool true) t_59) w fun t_60 w =>
            gate (some (t_60, false)) (fun K => K t_56 w) w fun t_61 w =>
            gate (some (t_60, false)) (fun K => pvv prog (oEq .neq 32 (.tmp 110) (.const (.int .i64 0)) t_61 (.int .i64 0)) w K) w fun t_62 w =>
            pv prog (oPick t_60 (.bool true) t_62) w fun t_63 w =>
            cd t_63 (
              K (.bool false) w) <|
            dr w fun w =>
            pvv prog (Instr.indexAt 37 t_21 i_22) w fun t_64 w =>
            pvv prog (Instr.fieldAt 41 t_64 1) w fun t_65 w =>
            bindS (vN (Instr.loadAt 39 t_65)) fun m_67 => ldv prog (Instr.loadAt 39 t_65) w fun t_66 w =>
            efv prog (convert 22 9 t_54) w fun t_68 w => stay prog none m_67 t_66 w <| 
            pvv prog (Instr.indexAt 39 t_66 k_26) w fun t_69 w =>
            efu prog (Instr.storeAt 9 t_69 t_68) w fun u_70 w =>
            pvv prog (binOp .add 3 k_26 (.int .i64 1)) w fun t_71 w =>
            again_27 [t_71] w))) [(.int .i64 0)] w)) <|
        pvv prog (binOp .add 3 i_22 (.int .i64 1)) w fun t_74 w =>
        again_23 [t_74] w) [(.int .i64 0)] w) <|
    Calls prog 21 #[t_21] w (Ret fun t_75 w =>
    pvv prog (Instr.extract t_75 0) w fun t_76 w =>
    pvv prog (Instr.extract t_75 1) w fun t_77 w =>
    pvv prog (oEq .eql 32 (.tmp 127) (.const (.int .i64 0)) t_77 (.int .i64 0)) w fun t_78 w =>
    gate (some (t_78, true)) (fun K => K t_76 w) w fun t_79 w =>
    gate (some (t_78, true)) (fun K => ldv prog (Instr.loadAt 54 o_10) w K) w fun t_80 w =>
    gate (some (t_78, true)) (fun K => Calls prog 22 #[t_79, t_80, (.int .i64 0)] w (Ret K)) w fun t_81 w =>
    gate (some (t_78, true)) (fun K => pvv prog (oEq .eql 32 (.tmp 132) (.const (.int .i64 0)) t_81 (.int .i64 0)) w K) w fun t_82 w =>
    pv prog (oPick t_78 t_82 (.bool false)) w fun t_83 w =>
    gate (some (t_83, true)) (fun K => K t_76 w) w fun t_84 w =>
    gate (some (t_83, true)) (fun K => ldv prog (Instr.loadAt 54 o_10) w K) w fun t_85 w =>
    gate (some (t_83, true)) (fun K => K password_p0 w) w fun t_86 w =>
    gate (some (t_83, true)) (fun K => Calls prog 23 #[t_84, t_85, t_86, (.int .i64 0)] w (Ret K)) w fun t_87 w =>
    gate (some (t_83, true)) (fun K => pvv prog (oEq .eql 32 (.tmp 139) (.const (.int .i64 0)) t_87 (.int .i64 0)) w K) w fun t_88 w =>
    pv prog (oPick t_83 t_88 (.bool false)) w fun t_89 w =>
    gate (some (t_89, true)) (fun K => K t_76 w) w fun t_90 w =>
    gate (some (t_89, true)) (fun K => Calls prog 18 #[t_90] w (Ret K)) w fun t_91 w =>
    gate (some (t_89, true)) (fun K => pv prog (oBi .len #[37] 3 #[false] #[t_91]) w K) w fun t_92 w =>
    gate (some (t_89, true)) (fun K => K t_21 w) w fun t_93 w =>
    gate (some (t_89, true)) (fun K => pv prog (oBi .len #[37] 3 #[false] #[t_93]) w K) w fun t_94 w =>
    gate (some (t_89, true)) (fun K => pvv prog (oEq .eql 3 (.tmp 145) (.tmp 147) t_92 t_94) w K) w fun t_95 w =>
    pv prog (oPick t_89 t_95 (.bool false)) w fun t_96 w =>
    K t_96 w)) [(.int .i64 0)] w)))))
theorem B4_eq (password_p0 n_p1 : Value) (w : World) (K : Value → World → Prop) : denFn prog Tryz.f4 T4 [password_p0, n_p1] w K = B4 password_p0 n_p1 w K := by kernel_rfl
theorem c4 {password_p0 n_p1 : Value} {w : World} {K : Value → World → Prop} (h : B4 password_p0 n_p1 w K) : Calls prog 4 #[password_p0, n_p1] w (Ret K) :=
  denFn_calls Tryz.func4 T4_ok (Eq.mpr (B4_eq password_p0 n_p1 w K) h)

-- 120 internal/strconv.formatBits
def T120 : Ann := (.seq .none (.meet 1073217536 [] (.seq .none (.seq .none .none)) (.seq .none (.seq .none (.meet 7516192770 [1] (.seq .none (.seq .none .none)) (.meet 618970019642690128860143618 [13] (.seq .none (.seq (.seq .none (.seq .none (.seq .none (.seq (.block (.loop 288212783965675522 [1, 13] (.seq (.seq .none (.seq .none .none)) (.block (.seq .none (.seq .none .none)))))) (.seq .none .none))))) (.seq .none (.seq (.block (.loop 9671332769940738559713282 [1, 13] (.seq (.seq .none (.seq .none .none)) (.block (.seq .none (.seq .none (.seq .none .none))))))) (.seq .none .none))))) (.meet 19188070608923394260936433664 [13] (.seq .none (.seq (.seq .none .none) .none)) (.seq (.seq .none (.seq (.seq .none .none) .none)) (.seq .none .none)))))))))
theorem T120_ok : chkFn prog Tryz.f120 T120 = true := by kernel_rfl
def B120 (dst_p0 u_p1 base_p2 neg_p3 append__p4 : Value) (w : World) (K : Value → World → Prop) : Prop :=
  jn (fun σ w => fin σ <|
    efv prog (Instr.alloc 222 true (.tuple #[])) w fun a_0 w =>
    jn (fun σ w => pop σ fun u_1 σ => fin σ <|
      jn (fun σ w => pop σ fun i_2 σ => fin σ <|
        jn (fun σ w => pop σ fun i_3 σ => fin σ <|
          cd append__p4 (
            pvv prog (Instr.sliceAt 222 a_0 (some i_3) none none) w fun t_4 w =>
            ef prog (oBi .append #[22, 22] 22 #[false, false] #[dst_p0, t_4]) w fun t_5 w =>
            K (.tuple #[t_5, (.string ⟨#[]⟩)]) w) <|
          pvv prog (Instr.sliceAt 222 a_0 (some i_3) none none) w fun t_6 w =>
          efv prog (convert 22 9 t_6) w fun t_7 w =>
          K (.tuple #[(.slice none 0 0), t_7]) w) fun k_8 =>
        cd neg_p3 (
          pvv prog (binOp .sub 3 i_2 (.int .i64 1)) w fun t_9 w =>
          pvv prog (Instr.indexAt 222 a_0 t_9) w fun t_10 w =>
          efu prog (Instr.storeAt 5 t_10 (.int .u8 45)) w fun u_11 w =>
          k_8 [t_9] w) <|
        k_8 [i_2] w) fun k_12 =>
      Calls prog 150 #[base_p2] w (Ret fun t_13 w =>
      cd t_13 (
        pvv prog (convert 3 80 base_p2) w fun t_14 w =>
        Calls prog 151 #[t_14] w (Ret fun t_15 w =>
        pvv prog (convert 3 80 t_15) w fun t_16 w =>
        pvv prog (convert 3 79 base_p2) w fun t_17 w =>
        pvv prog (convert 3 80 base_p2) w fun t_18 w =>
        pvv prog (binOp .sub 80 t_18 (.int .u64 1)) w fun t_19 w =>
        lp (fun σ w again_22 => pop σ fun u_20 σ => pop σ fun i_21 σ => fin σ <|
          pvv prog (binOp .geq 79 u_20 t_17) w fun t_23 w =>
          cd t_23 (
            pvv prog (binOp .sub 3 i_21 (.int .i64 1)) w fun t_24 w =>
            pvv prog (binOp .and 80 u_20 t_19) w fun t_25 w =>
            pvv prog (Instr.index 9 (.string ⟨#[48, 49, 50, 51, 52, 53, 54, 55, 56, 57, 97, 98, 99, 100, 101, 102, 103, 104, 105, 106, 107, 108, 109, 110, 111, 112, 113, 114, 115, 116, 117, 118, 119, 120, 121, 122]⟩) t_25) w fun t_26 w =>
            pvv prog (Instr.indexAt 222 a_0 t_24) w fun t_27 w =>
            efu prog (Instr.storeAt 5 t_27 t_26) w fun u_28 w =>
            pvv prog (binOp .shr 79 u_20 t_16) w fun t_29 w =>
            again_22 [t_29, t_24] w) <|
          pvv prog (binOp .sub 3 i_21 (.int .i64 1)) w fun t_30 w =>
          pvv prog (Instr.index 9 (.string ⟨#[48, 49, 50, 51, 52, 53, 54, 55, 56, 57, 97, 98, 99, 100, 101, 102, 103, 104, 105, 106, 107, 108, 109, 110, 111, 112, 113, 114, 115, 116, 117, 118, 119, 120, 121, 122]⟩) u_20) w fun t_31 w =>
          pvv prog (Instr.indexAt 222 a_0 t_30) w fun t_32 w =>
          efu prog (Instr.storeAt 5 t_32 t_31) w fun u_33 w =>
          k_12 [t_30] w) [u_1, (.int .i64 65)] w)) <|
      pvv prog (convert 3 79 base_p2) w fun t_34 w =>
      lp (fun σ w again_37 => pop σ fun u_35 σ => pop σ fun i_36 σ => fin σ <|
        pvv prog (binOp .geq 79 u_35 t_34) w fun t_38 w =>
        cd t_38 (
          pvv prog (binOp .sub 3 i_36 (.int .i64 1)) w fun t_39 w =>
          pvv prog (binOp .quo 79 u_35 t_34) w fun t_40 w =>
          pvv prog (binOp .mul 79 t_40 t_34) w fun t_41 w =>
          pvv prog (binOp .sub 79 u_35 t_41) w fun t_42 w =>
          pvv prog (Instr.index 9 (.string ⟨#[48, 49, 50, 51, 52, 53, 54, 55, 56, 57, 97, 98, 99, 100, 101, 102, 103, 104, 105, 106, 107, 108, 109, 110, 111, 112, 113, 114, 115, 116, 117, 118, 119, 120, 121, 122]⟩) t_42) w fun t_43 w =>
          pvv prog (Instr.indexAt 222 a_0 t_39) w fun t_44 w =>
          efu prog (Instr.storeAt 5 t_44 t_43) w fun u_45 w =>
          again_37 [t_40, t_39] w) <|
        pvv prog (binOp .sub 3 i_36 (.int .i64 1)) w fun t_46 w =>
        pvv prog (Instr.index 9 (.string ⟨#[48, 49, 50, 51, 52, 53, 54, 55, 56, 57, 97, 98, 99, 100, 101, 102, 103, 104, 105, 106, 107, 108, 109, 110, 111, 112, 113, 114, 115, 116, 117, 118, 119, 120, 121, 122]⟩) u_35) w fun t_47 w =>
        pvv prog (Instr.indexAt 222 a_0 t_46) w fun t_48 w =>
        efu prog (Instr.storeAt 5 t_48 t_47) w fun u_49 w =>
        k_12 [t_46] w) [u_1, (.int .i64 65)] w)) fun k_50 =>
    cd neg_p3 (
      pvv prog (Op.unary .neg u_p1) w fun t_51 w =>
      k_50 [t_51] w) <|
    k_50 [u_p1] w) fun k_52 =>
  pvv prog (binOp .lss 3 base_p2 (.int .i64 2)) w fun t_53 w =>
  gate (some (t_53, false)) (fun K => K base_p2 w) w fun t_54 w =>
  gate (some (t_53, false)) (fun K => pvv prog (oEq .eql 3 (.tmp 22) (.const (.int .i64 10)) t_54 (.int .i64 10)) w K) w fun t_55 w =>
  pv prog (oPick t_53 (.bool true) t_55) w fun t_56 w =>
  gate (some (t_56, false)) (fun K => K base_p2 w) w fun t_57 w =>
  gate (some (t_56, false)) (fun K => pvv prog (binOp .gtr 3 t_57 (.int .i64 36)) w K) w fun t_58 w =>
  pv prog (oPick t_56 (.bool true) t_58) w fun t_59 w =>
  cd t_59 (
    pvv prog (Instr.makeInterface 9 (.string ⟨#[115, 116, 114, 99, 111, 110, 118, 58, 32, 105, 108, 108, 101, 103, 97, 108, 32, 65, 112, 112, 101, 110, 100, 73, 110, 116, 47, 70, 111, 114, 109, 97, 116, 73, 110, 116, 32, 98, 97, 115, 101]⟩)) w fun t_60 w =>
    efv prog (Instr.panic t_60) w fun u_61 w =>
    k_52 [] w) <|
  k_52 [] w
theorem B120_eq (dst_p0 u_p1 base_p2 neg_p3 append__p4 : Value) (w : World) (K : Value → World → Prop) : denFn prog Tryz.f120 T120 [dst_p0, u_p1, base_p2, neg_p3, append__p4] w K = B120 dst_p0 u_p1 base_p2 neg_p3 append__p4 w K := by kernel_rfl
theorem c120 {dst_p0 u_p1 base_p2 neg_p3 append__p4 : Value} {w : World} {K : Value → World → Prop} (h : B120 dst_p0 u_p1 base_p2 neg_p3 append__p4 w K) : Calls prog 120 #[dst_p0, u_p1, base_p2, neg_p3, append__p4] w (Ret K) :=
  denFn_calls Tryz.func120 T120_ok (Eq.mpr (B120_eq dst_p0 u_p1 base_p2 neg_p3 append__p4 w K) h)

-- 7 holdfast/hash.Sum
def T7 : Ann := (.seq .none (.seq .none (.seq .none (.seq .none (.seq (.block (.loop 33488897 [0] (.seq (.seq .none (.seq .none .none)) (.seq (.block .none) .none)))) (.seq .none (.seq .none (.seq (.seq .none (.block (.loop 281440616972480 [6, 35] (.seq .none (.seq (.seq .none .none) (.seq (.block (.seq .none .none)) .none)))))) (.seq (.block (.loop 143833713099145280 [6] (.seq (.seq .none (.seq .none .none)) (.seq (.block .none) .none)))) (.seq (.seq .none (.block (.loop 618970019354459761297851136 [58] (.seq .none (.seq (.seq .none .none) (.seq (.block (.seq .none .none)) .none)))))) (.seq .none .none)))))))))))
theorem T7_ok : chkFn prog Tryz.f7 T7 = true := by kernel_rfl
def B7 (b_p0 : Value) (w : World) (K : Value → World → Prop) : Prop :=
  efv prog (Instr.alloc 28 true (.tuple #[])) w fun out_0 w =>
  pvv prog (Instr.build 76 #[(0, (.int .u32 1779033703)), (1, (.int .u32 3144134277)), (2, (.int .u32 1013904242)), (3, (.int .u32 2773480762)), (4, (.int .u32 1359893119)), (5, (.int .u32 2600822924)), (6, (.int .u32 528734635)), (7, (.int .u32 1541459225))]) w fun t_1 w =>
  efv prog (Instr.alloc 76 true (.tuple #[])) w fun h_2 w =>
  efu prog (Instr.storeAt 76 h_2 t_1) w fun u_3 w =>
  Calls prog 24 #[] w (Ret fun t_4 w =>
  pv prog (oBi .len #[22] 3 #[false] #[b_p0]) w fun t_5 w =>
  pvv prog (convert 3 79 t_5) w fun t_6 w =>
  pvv prog (binOp .shl 79 t_6 (.int .u64 3)) w fun t_7 w =>
  lp (fun σ w again_9 => pop σ fun b_8 σ => fin σ <|
    pv prog (oBi .len #[22] 3 #[false] #[b_8]) w fun t_10 w =>
    pvv prog (binOp .geq 3 t_10 (.int .i64 64)) w fun t_11 w =>
    cd t_11 (
      ldv prog (Instr.loadAt 76 h_2) w fun t_12 w =>
      Calls prog 25 #[t_12, t_4, b_8] w (Ret fun t_13 w =>
      efu prog (Instr.storeAt 76 h_2 t_13) w fun u_14 w =>
      pvv prog (Instr.sliceAt 22 b_8 (some (.int .i64 64)) none none) w fun t_15 w =>
      again_9 [t_15] w)) <|
    Calls prog 26 #[b_8] w (Ret fun t_16 w =>
    efv prog (Instr.buildSlice 22 1 #[(0, (.int .u8 128))]) w fun t_17 w =>
    ef prog (oBi .append #[22, 22] 22 #[false, false] #[t_16, t_17]) w fun t_18 w =>
    pv prog (oBi .len #[22] 3 #[false] #[b_8]) w fun t_19 w =>
    pvv prog (binOp .sub 3 (.int .i64 119) t_19) w fun t_20 w =>
    pvv prog (binOp .rem 3 t_20 (.int .i64 64)) w fun t_21 w =>
    ef prog (oBi .append #[22, 3] 22 #[false, false] #[t_18, t_21]) w fun t_22 w =>
    lp (fun σ w again_25 => pop σ fun end_23 σ => pop σ fun t_24 σ => fin σ <|
      pvv prog (binOp .lss 3 t_24 (.int .i64 8)) w fun t_26 w =>
      cd t_26 (
        pvv prog (binOp .mul 3 (.int .i64 8) t_24) w fun t_27 w =>
        pvv prog (binOp .sub 3 (.int .i64 56) t_27) w fun t_28 w =>
        pvv prog (binOp .shr 79 t_7 t_28) w fun t_29 w =>
        pvv prog (convert 79 5 t_29) w fun t_30 w =>
        efv prog (Instr.buildSlice 22 1 #[(0, t_30)]) w fun t_31 w =>
        ef prog (oBi .append #[22, 22] 22 #[false, false] #[end_23, t_31]) w fun t_32 w =>
        pvv prog (binOp .add 3 t_24 (.int .i64 1)) w fun t_33 w =>
        again_25 [t_32, t_33] w) <|
      lp (fun σ w again_35 => pop σ fun end_34 σ => fin σ <|
        pv prog (oBi .len #[22] 3 #[false] #[end_34]) w fun t_36 w =>
        pvv prog (binOp .gtr 3 t_36 (.int .i64 0)) w fun t_37 w =>
        cd t_37 (
          ldv prog (Instr.loadAt 76 h_2) w fun t_38 w =>
          Calls prog 25 #[t_38, t_4, end_34] w (Ret fun t_39 w =>
          efu prog (Instr.storeAt 76 h_2 t_39) w fun u_40 w =>
          pvv prog (Instr.sliceAt 22 end_34 (some (.int .i64 64)) none none) w fun t_41 w =>
          again_35 [t_41] w)) <|
        ldv prog (Instr.loadAt 76 h_2) w fun t_42 w =>
        lp (fun σ w again_44 => pop σ fun t_43 σ => fin σ <|
          pvv prog (binOp .lss 3 t_43 (.int .i64 8)) w fun t_45 w =>
          cd t_45 (
            pvv prog (Instr.index 76 t_42 t_43) w fun t_46 w =>
            pvv prog (binOp .mul 3 (.int .i64 4) t_43) w fun t_47 w =>
            pvv prog (binOp .mul 3 (.int .i64 4) t_43) w fun t_48 w =>
            pvv prog (binOp .add 3 t_48 (.int .i64 1)) w fun t_49 w =>
            pvv prog (binOp .mul 3 (.int .i64 4) t_43) w fun t_50 w =>
            pvv prog (binOp .add 3 t_50 (.int .i64 2)) w fun t_51 w =>
            pvv prog (binOp .mul 3 (.int .i64 4) t_43) w fun t_52 w =>
            pvv prog (binOp .add 3 t_52 (.int .i64 3)) w fun t_53 w =>
            pvv prog (binOp .shr 74 t_46 (.int .u64 24)) w fun t_54 w =>
            pvv prog (convert 74 5 t_54) w fun t_55 w =>
            pvv prog (binOp .shr 74 t_46 (.int .u64 16)) w fun t_56 w =>
            pvv prog (convert 74 5 t_56) w fun t_57 w =>
            pvv prog (binOp .shr 74 t_46 (.int .u64 8)) w fun t_58 w =>
            pvv prog (convert 74 5 t_58) w fun t_59 w =>
            pvv prog (convert 74 5 t_46) w fun t_60 w =>
            pvv prog (Instr.indexAt 28 out_0 t_47) w fun t_61 w =>
            efu prog (Instr.storeAt 5 t_61 t_55) w fun u_62 w =>
            pvv prog (Instr.indexAt 28 out_0 t_49) w fun t_63 w =>
            efu prog (Instr.storeAt 5 t_63 t_57) w fun u_64 w =>
            pvv prog (Instr.indexAt 28 out_0 t_51) w fun t_65 w =>
            efu prog (Instr.storeAt 5 t_65 t_59) w fun u_66 w =>
            pvv prog (Instr.indexAt 28 out_0 t_53) w fun t_67 w =>
            efu prog (Instr.storeAt 5 t_67 t_60) w fun u_68 w =>
            pvv prog (binOp .add 3 t_43 (.int .i64 1)) w fun t_69 w =>
            again_44 [t_69] w) <|
          ldv prog (Instr.loadAt 28 out_0) w fun t_70 w =>
          efu prog (Instr.storeAt 28 out_0 t_70) w fun u_71 w =>
          ∃ r_72, (do loadVar 28 (← asAddr out_0)).run prog w = .ok r_72 w ∧ K r_72 w) [(.int .i64 0)] w) [end_23] w) [t_22, (.int .i64 0)] w)) [b_p0] w)
theorem B7_eq (b_p0 : Value) (w : World) (K : Value → World → Prop) : denFn prog Tryz.f7 T7 [b_p0] w K = B7 b_p0 w K := by kernel_rfl
theorem c7 {b_p0 : Value} {w : World} {K : Value → World → Prop} (h : B7 b_p0 w K) : Calls prog 7 #[b_p0] w (Ret K) :=
  denFn_calls Tryz.func7 T7_ok (Eq.mpr (B7_eq b_p0 w K) h)

-- 34 holdfast/seal.Open
def T34 : Ann := (.seq .none (.seq (.block (.seq .none (.seq (.seq .none .none) (.seq .none (.seq (.seq .none .none) .none))))) (.seq .none (.seq (.seq (.draw [.op 1 .pure, .op 2 .pure, .op 3 .pure, .op 5 .pure, .op 6 .pure, .op 7 .pure, .op 0 .load, .par [⟨4, .eff, (some 27), []⟩, ⟨8, .eff, (some 31), []⟩, ⟨9, .load, (some 32), [(1, some 31)]⟩], .op 10 .pure]) (.seq (.seq .none .none) .none)) (.seq (.seq .none (.block (.loop 140600049402400 [5, 37] (.seq .none (.seq (.seq .none .none) (.seq (.block (.seq .none .none)) .none)))))) (.seq (.draw [.op 1 .pure, .op 2 .pure, .op 3 .pure, .op 4 .pure, .op 6 .pure, .op 0 .load, .op 5 .eff, .op 7 .pure, .op 8 .pure, .op 9 .pure]) .none))))))
theorem T34_ok : chkFn prog Tryz.f34 T34 = true := by kernel_rfl
def B34 (key_p0 sealed_p1 : Value) (w : World) (K : Value → World → Prop) : Prop :=
  efv prog (Instr.box 28 key_p0) w fun key_0 w =>
  pv prog (oBi .len #[22] 3 #[false] #[sealed_p1]) w fun t_1 w =>
  Calls prog 58 #[(.int .i64 0)] w (Ret fun t_2 w =>
  pvv prog (binOp .lss 3 t_1 t_2) w fun t_3 w =>
  cd t_3 (
    K (.tuple #[(.slice none 0 0), (.int .u64 0), (.int .i64 3)]) w) <|
  pv prog (oBi .len #[22] 3 #[false] #[sealed_p1]) w fun t_4 w =>
  Calls prog 58 #[(.int .i64 1024)] w (Ret fun t_5 w =>
  pvv prog (binOp .gtr 3 t_4 t_5) w fun t_6 w =>
  cd t_6 (
    K (.tuple #[(.slice none 0 0), (.int .u64 0), (.int .i64 6)]) w) <|
  pv prog (oBi .len #[22] 3 #[false] #[sealed_p1]) w fun t_7 w =>
  pvv prog (binOp .sub 3 t_7 (.int .i64 16)) w fun t_8 w =>
  dr w fun w =>
  pvv prog (Instr.sliceAt 22 sealed_p1 none (some t_8) none) w fun t_9 w =>
  pvv prog (Instr.sliceAt 22 sealed_p1 (some t_8) none none) w fun t_10 w =>
  bindS (vN (Instr.loadAt 28 key_0)) fun m_12 => ldv prog (Instr.loadAt 28 key_0) w fun t_11 w =>
  par 3 w fun J_13 =>
    (∀ (σ : List (Option Value)) (w : World), J_13 σ w → un σ 0 (Calls prog 57 #[t_11, t_9] w (Ret fun v_14 w => J_13 (σ.set 0 (some v_14)) w))) ∧
    (∀ (σ : List (Option Value)) (w : World), J_13 σ w → un σ 1 (efv prog (Instr.arrayAt 130 t_10) w fun v_15 w => stay prog none m_12 t_11 w <| J_13 (σ.set 1 (some v_15)) w)) ∧
    (∀ (σ : List (Option Value)) (w : World), J_13 σ w → un σ 2 (is σ 1 fun t_16 => ldv prog (Instr.loadAt 130 t_16) w fun v_17 w => J_13 (σ.set 2 (some v_17)) w)) ∧
    ∀ (σ : List (Option Value)) (w : World), J_13 σ w → is σ 0 fun t_18 => is σ 1 fun t_19 => is σ 2 fun t_20 => 
    pvv prog (oEq .neq 130 (.tmp 27) (.tmp 32) t_18 t_20) w fun t_21 w =>
    cd t_21 (
      K (.tuple #[(.slice none 0 0), (.int .u64 0), (.int .i64 10)]) w) <|
    pvv prog (Instr.sliceAt 22 sealed_p1 none (some (.int .i64 8)) none) w fun t_22 w =>
    pv prog (oBi .len #[22] 3 #[false] #[t_22]) w fun t_23 w =>
    lp (fun σ w again_26 => pop σ fun once_24 σ => pop σ fun t_25 σ => fin σ <|
      pvv prog (binOp .lss 3 t_25 t_23) w fun t_27 w =>
      cd t_27 (
        pvv prog (Instr.indexAt 22 t_22 t_25) w fun t_28 w =>
        ldv prog (Instr.loadAt 5 t_28) w fun t_29 w =>
        pvv prog (binOp .shl 79 once_24 (.int .u64 8)) w fun t_30 w =>
        pvv prog (convert 5 79 t_29) w fun t_31 w =>
        pvv prog (binOp .or 79 t_30 t_31) w fun t_32 w =>
        pvv prog (binOp .add 3 t_25 (.int .i64 1)) w fun t_33 w =>
        again_26 [t_32, t_33] w) <|
      dr w fun w =>
      pvv prog (Instr.sliceAt 22 sealed_p1 (some (.int .i64 8)) (some t_8) none) w fun t_34 w =>
      bindS (vN (Instr.loadAt 28 key_0)) fun m_36 => ldv prog (Instr.loadAt 28 key_0) w fun t_35 w =>
      Calls prog 56 #[t_35, once_24, t_34] w (Ret fun t_37 w =>
      K (.tuple #[t_37, once_24, (.int .i64 0)]) w)) [(.int .u64 0), (.int .i64 0)] w))
theorem B34_eq (key_p0 sealed_p1 : Value) (w : World) (K : Value → World → Prop) : denFn prog Tryz.f34 T34 [key_p0, sealed_p1] w K = B34 key_p0 sealed_p1 w K := by kernel_rfl
theorem c34 {key_p0 sealed_p1 : Value} {w : World} {K : Value → World → Prop} (h : B34 key_p0 sealed_p1 w K) : Calls prog 34 #[key_p0, sealed_p1] w (Ret K) :=
  denFn_calls Tryz.func34 T34_ok (Eq.mpr (B34_eq key_p0 sealed_p1 w K) h)

-- 165 slices.insertionSortOrdered[string]
def T165 : Ann := (.seq .none (.block (.loop 562949953420480 [6] (.seq (.seq .none (.seq .none .none)) (.seq (.block (.seq .none (.block (.loop 562949953355904 [7] (.seq (.seq (.draw [.op 0 .pure, .op 1 .pure, .op 2 .pure, .op 3 .pure, .op 4 .pure, .op 5 .pure, .op 6 .pure, .op 8 .pure, .op 9 .pure, .op 10 .pure, .op 11 .pure, .op 7 .load, .op 12 .load, .op 13 .eff, .op 14 .pure]) (.seq .none .none)) (.seq (.block (.draw [.op 0 .pure, .op 1 .pure, .op 2 .pure, .op 3 .pure, .op 4 .pure, .op 5 .pure, .op 6 .pure, .op 7 .pure, .op 8 .pure, .op 10 .pure, .op 11 .pure, .op 12 .pure, .op 9 .load, .op 13 .load, .op 14 .pure, .op 15 .eff, .op 16 .pure, .op 17 .eff])) .none)))))) .none)))))
theorem T165_ok : chkFn prog Tryz.f165 T165 = true := by kernel_rfl
def B165 (data_p0 a_p1 b_p2 : Value) (w : World) (K : Value → World → Prop) : Prop :=
  pvv prog (binOp .add 3 a_p1 (.int .i64 1)) w fun t_0 w =>
  lp (fun σ w again_2 => pop σ fun i_1 σ => fin σ <|
    pvv prog (binOp .lss 3 i_1 b_p2) w fun t_3 w =>
    cd t_3 (
      lp (fun σ w again_5 => pop σ fun j_4 σ => fin σ <|
        dr w fun w =>
        pvv prog (binOp .gtr 3 j_4 a_p1) w fun t_6 w =>
        gate (some (t_6, true)) (fun K => K data_p0 w) w fun t_7 w =>
        gate (some (t_6, true)) (fun K => K j_4 w) w fun t_8 w =>
        gate (some (t_6, true)) (fun K => pvv prog (Instr.indexAt 39 t_7 t_8) w K) w fun t_9 w =>
        gate (some (t_6, true)) (fun K => K data_p0 w) w fun t_10 w =>
        gate (some (t_6, true)) (fun K => K j_4 w) w fun t_11 w =>
        gate (some (t_6, true)) (fun K => pvv prog (binOp .sub 3 t_11 (.int .i64 1)) w K) w fun t_12 w =>
        gate (some (t_6, true)) (fun K => pvv prog (Instr.indexAt 39 t_10 t_12) w K) w fun t_13 w =>
        bindS (vN (Instr.loadAt 9 t_9)) fun m_15 => gate (some (t_6, true)) (fun K => ldv prog (Instr.loadAt 9 t_9) w K) w fun t_14 w =>
        bindS (vN (Instr.loadAt 9 t_13)) fun m_17 => gate (some (t_6, true)) (fun K => ldv prog (Instr.loadAt 9 t_13) w K) w fun t_16 w =>
        gate (some (t_6, true)) (fun K => Calls prog 171 #[t_14, t_16] w (Ret fun s_36 w => K s_36 w)) w fun t_18 w =>
        pv prog (oPick t_6 t_18 (.bool false)) w fun t_19 w =>
        cd t_19 (
          dr w fun w =>
          pvv prog (binOp .sub 3 j_4 (.int .i64 1)) w fun t_20 w =>
          pvv prog (binOp .sub 3 j_4 (.int .i64 1)) w fun t_21 w =>
          pvv prog (Instr.indexAt 39 data_p0 t_21) w fun t_22 w =>
          pvv prog (Instr.indexAt 39 data_p0 j_4) w fun t_23 w =>
          bindS (vN (Instr.loadAt 9 t_22)) fun m_25 => ldv prog (Instr.loadAt 9 t_22) w fun t_24 w =>
          bindS (vN (Instr.loadAt 9 t_23)) fun m_27 => ldv prog (Instr.loadAt 9 t_23) w fun t_26 w =>
          pvv prog (Instr.indexAt 39 data_p0 j_4) w fun t_28 w =>
          efu prog (Instr.storeAt 9 t_28 t_24) w fun u_29 w =>
          pvv prog (Instr.indexAt 39 data_p0 t_20) w fun t_30 w =>
          efu prog (Instr.storeAt 9 t_30 t_26) w fun u_31 w =>
          pvv prog (binOp .sub 3 j_4 (.int .i64 1)) w fun t_32 w =>
          again_5 [t_32] w) <|
        pvv prog (binOp .add 3 i_1 (.int .i64 1)) w fun t_35 w =>
        again_2 [t_35] w) [i_1] w) <|
    K (.tuple #[]) w) [t_0] w
theorem B165_eq (data_p0 a_p1 b_p2 : Value) (w : World) (K : Value → World → Prop) : denFn prog Tryz.f165 T165 [data_p0, a_p1, b_p2] w K = B165 data_p0 a_p1 b_p2 w K := by kernel_rfl
theorem c165 {data_p0 a_p1 b_p2 : Value} {w : World} {K : Value → World → Prop} (h : B165 data_p0 a_p1 b_p2 w K) : Calls prog 165 #[data_p0, a_p1, b_p2] w (Ret K) :=
  denFn_calls Tryz.func165 T165_ok (Eq.mpr (B165_eq data_p0 a_p1 b_p2 w K) h)

-- 59 holdfast/codec.ToNumber
def T59 : Ann := (.seq .none (.seq (.seq .none (.seq (.seq .none .none) .none)) (.seq .none (.seq (.seq .none (.seq (.seq .none .none) .none)) (.seq .none (.seq (.seq .none (.seq (.seq .none .none) .none)) (.seq .none .none)))))))
theorem T59_ok : chkFn prog Tryz.f59 T59 = true := by kernel_rfl
def B59 (s_p0 : Value) (w : World) (K : Value → World → Prop) : Prop :=
  pvv prog (oEq .eql 9 (.tmp 7) (.const (.string ⟨#[]⟩)) s_p0 (.string ⟨#[]⟩)) w fun t_0 w =>
  gate (some (t_0, false)) (fun K => K s_p0 w) w fun t_1 w =>
  gate (some (t_0, false)) (fun K => pvv prog (Instr.index 9 t_1 (.int .i64 0)) w K) w fun t_2 w =>
  gate (some (t_0, false)) (fun K => pvv prog (convert 5 3 t_2) w K) w fun t_3 w =>
  gate (some (t_0, false)) (fun K => K s_p0 w) w fun t_4 w =>
  gate (some (t_0, false)) (fun K => pv prog (oBi .len #[9] 3 #[false] #[t_4]) w K) w fun t_5 w =>
  gate (some (t_0, false)) (fun K => pvv prog (binOp .add 3 (.int .i64 97) t_5) w K) w fun t_6 w =>
  gate (some (t_0, false)) (fun K => pvv prog (binOp .sub 3 t_6 (.int .i64 1)) w K) w fun t_7 w =>
  gate (some (t_0, false)) (fun K => pvv prog (oEq .neq 3 (.tmp 12) (.tmp 16) t_3 t_7) w K) w fun t_8 w =>
  pv prog (oPick t_0 (.bool true) t_8) w fun t_9 w =>
  gate (some (t_9, false)) (fun K => K s_p0 w) w fun t_10 w =>
  gate (some (t_9, false)) (fun K => pv prog (oBi .len #[9] 3 #[false] #[t_10]) w K) w fun t_11 w =>
  gate (some (t_9, false)) (fun K => pvv prog (binOp .gtr 3 t_11 (.int .i64 17)) w K) w fun t_12 w =>
  pv prog (oPick t_9 (.bool true) t_12) w fun t_13 w =>
  cd t_13 (
    K (.tuple #[(.int .i64 0), (.int .i64 3)]) w) <|
  pvv prog (Instr.sliceAt 9 s_p0 (some (.int .i64 1)) none none) w fun t_14 w =>
  Calls prog 74 #[t_14, (.string ⟨#[48]⟩)] w (Ret fun t_15 w =>
  gate (some (t_15, false)) (fun K => K t_14 w) w fun t_16 w =>
  gate (some (t_15, false)) (fun K => Calls prog 71 #[t_16, (.string ⟨#[48, 49, 50, 51, 52, 53, 54, 55, 56, 57, 97, 98, 99, 100, 101, 102]⟩)] w (Ret K)) w fun t_17 w =>
  gate (some (t_15, false)) (fun K => pvv prog (oEq .neq 9 (.tmp 30) (.const (.string ⟨#[]⟩)) t_17 (.string ⟨#[]⟩)) w K) w fun t_18 w =>
  pv prog (oPick t_15 (.bool true) t_18) w fun t_19 w =>
  cd t_19 (
    K (.tuple #[(.int .i64 0), (.int .i64 3)]) w) <|
  pvv prog (binOp .add 9 (.string ⟨#[48]⟩) t_14) w fun t_20 w =>
  Calls prog 75 #[t_20, (.int .i64 16), (.int .i64 64)] w (Ret fun t_21 w =>
  pvv prog (Instr.extract t_21 0) w fun t_22 w =>
  pvv prog (Instr.extract t_21 1) w fun t_23 w =>
  pvv prog (oEq .neq 151 (.tmp 39) (.const .nilIface) t_23 .nilIface) w fun t_24 w =>
  gate (some (t_24, false)) (fun K => K t_22 w) w fun t_25 w =>
  gate (some (t_24, false)) (fun K => pvv prog (binOp .gtr 79 t_25 (.int .u64 4611686018427387904)) w K) w fun t_26 w =>
  pv prog (oPick t_24 (.bool true) t_26) w fun t_27 w =>
  cd t_27 (
    K (.tuple #[(.int .i64 0), (.int .i64 2)]) w) <|
  pvv prog (convert 79 3 t_22) w fun t_28 w =>
  K (.tuple #[t_28, (.int .i64 0)]) w))
theorem B59_eq (s_p0 : Value) (w : World) (K : Value → World → Prop) : denFn prog Tryz.f59 T59 [s_p0] w K = B59 s_p0 w K := by kernel_rfl
theorem c59 {s_p0 : Value} {w : World} {K : Value → World → Prop} (h : B59 s_p0 w K) : Calls prog 59 #[s_p0] w (Ret K) :=
  denFn_calls Tryz.func59 T59_ok (Eq.mpr (B59_eq s_p0 w K) h)

-- 46 holdfast/hash.Iterate
def T46 : Ann := (.seq .none (.seq (.block (.seq .none (.seq (.seq .none .none) (.seq .none (.seq (.seq .none .none) .none))))) (.seq .none (.seq (.seq .none (.block (.loop 1090921693184 [33] (.seq .none (.seq (.seq .none .none) (.seq (.block .none) .none)))))) (.seq .none .none)))))
theorem T46_ok : chkFn prog Tryz.f46 T46 = true := by kernel_rfl
def B46 (password_p0 salt_p1 cost_p2 : Value) (w : World) (K : Value → World → Prop) : Prop :=
  efv prog (Instr.alloc 28 true (.tuple #[])) w fun t_0 w =>
  pv prog (oBi .len #[9] 3 #[false] #[password_p0]) w fun t_1 w =>
  pvv prog (binOp .gtr 3 t_1 (.int .i64 64)) w fun t_2 w =>
  gate (some (t_2, false)) (fun K => K salt_p1 w) w fun t_3 w =>
  gate (some (t_2, false)) (fun K => pv prog (oBi .len #[9] 3 #[false] #[t_3]) w K) w fun t_4 w =>
  gate (some (t_2, false)) (fun K => pvv prog (binOp .gtr 3 t_4 (.int .i64 8)) w K) w fun t_5 w =>
  pv prog (oPick t_2 (.bool true) t_5) w fun t_6 w =>
  cd t_6 (
    pvv prog (Instr.build 28 #[]) w fun t_7 w =>
    efu prog (Instr.storeAt 28 t_0 t_7) w fun u_8 w =>
    ∃ r_9, (do loadVar 28 (← asAddr t_0)).run prog w = .ok r_9 w ∧ K (.tuple #[r_9, (.int .i64 6)]) w) <|
  pvv prog (binOp .lss 3 cost_p2 (.int .i64 1)) w fun t_10 w =>
  gate (some (t_10, false)) (fun K => K cost_p2 w) w fun t_11 w =>
  gate (some (t_10, false)) (fun K => pvv prog (binOp .gtr 3 t_11 (.int .i64 64)) w K) w fun t_12 w =>
  pv prog (oPick t_10 (.bool true) t_12) w fun t_13 w =>
  cd t_13 (
    pvv prog (Instr.build 28 #[]) w fun t_14 w =>
    efu prog (Instr.storeAt 28 t_0 t_14) w fun u_15 w =>
    ∃ r_16, (do loadVar 28 (← asAddr t_0)).run prog w = .ok r_16 w ∧ K (.tuple #[r_16, (.int .i64 2)]) w) <|
  efv prog (convert 9 22 salt_p1) w fun t_17 w =>
  efv prog (convert 9 22 password_p0) w fun t_18 w =>
  Calls prog 68 #[t_17, t_18] w (Ret fun t_19 w =>
  efv prog (Instr.alloc 28 true (.tuple #[])) w fun h_20 w =>
  efu prog (Instr.storeAt 28 h_20 t_19) w fun u_21 w =>
  lp (fun σ w again_23 => pop σ fun t_22 σ => fin σ <|
    pvv prog (binOp .lss 3 t_22 cost_p2) w fun t_24 w =>
    cd t_24 (
      efv prog (convert 9 22 password_p0) w fun t_25 w =>
      pvv prog (Instr.sliceAt 28 h_20 none none none) w fun t_26 w =>
      Calls prog 68 #[t_25, t_26] w (Ret fun t_27 w =>
      efu prog (Instr.storeAt 28 h_20 t_27) w fun u_28 w =>
      pvv prog (binOp .add 3 t_22 (.int .i64 1)) w fun t_29 w =>
      again_23 [t_29] w)) <|
    ldv prog (Instr.loadAt 28 h_20) w fun t_30 w =>
    efu prog (Instr.storeAt 28 t_0 t_30) w fun u_31 w =>
    ∃ r_32, (do loadVar 28 (← asAddr t_0)).run prog w = .ok r_32 w ∧ K (.tuple #[r_32, (.int .i64 0)]) w) [(.int .i64 0)] w)
theorem B46_eq (password_p0 salt_p1 cost_p2 : Value) (w : World) (K : Value → World → Prop) : denFn prog Tryz.f46 T46 [password_p0, salt_p1, cost_p2] w K = B46 password_p0 salt_p1 cost_p2 w K := by kernel_rfl
theorem c46 {password_p0 salt_p1 cost_p2 : Value} {w : World} {K : Value → World → Prop} (h : B46 password_p0 salt_p1 cost_p2 w K) : Calls prog 46 #[password_p0, salt_p1, cost_p2] w (Ret K) :=
  denFn_calls Tryz.func46 T46_ok (Eq.mpr (B46_eq password_p0 salt_p1 cost_p2 w K) h)

-- 73 holdfast/seal.Stream
def T73 : Ann := (.seq .none (.seq (.seq .none (.seq (.seq .none .none) .none)) (.seq .none (.seq (.seq .none (.block (.range .none (.block (.seq (.seq .none (.seq .none .none)) (.draw [.op 1 .pure, .op 0 .load, .op 2 .eff, .op 3 .eff])))))) (.seq .none .none)))))
theorem T73_ok : chkFn prog Tryz.f73 T73 = true := by kernel_rfl
def B73 (key_p0 once_p1 n_p2 : Value) (w : World) (K : Value → World → Prop) : Prop :=
  efv prog (Instr.box 28 key_p0) w fun key_0 w =>
  efv prog (Instr.box 3 n_p2) w fun n_1 w =>
  ldv prog (Instr.loadAt 3 n_1) w fun t_2 w =>
  pvv prog (binOp .lss 3 t_2 (.int .i64 0)) w fun t_3 w =>
  gate (some (t_3, false)) (fun K => ldv prog (Instr.loadAt 3 n_1) w K) w fun t_4 w =>
  gate (some (t_3, false)) (fun K => pvv prog (binOp .gtr 3 t_4 (.int .i64 1024)) w K) w fun t_5 w =>
  pv prog (oPick t_3 (.bool true) t_5) w fun t_6 w =>
  cd t_6 (
    K (.tuple #[(.slice none 0 0), (.int .i64 2)]) w) <|
  efv prog (Instr.alloc 22 true (.tuple #[])) w fun out_7 w =>
  ldv prog (Instr.loadAt 28 key_0) w fun t_8 w =>
  Calls prog 101 #[t_8, once_p1] w (Ret fun t_9 w =>
  rng prog 1 t_9 (fun σ w bg_11 ex_12 => pop σ fun t_10 σ => fin σ <|
    efv prog (Instr.alloc 28 true (.tuple #[])) w fun b_13 w =>
    efu prog (Instr.storeAt 28 b_13 t_10) w fun u_14 w =>
    bg_11 w fun w =>
    ldv prog (Instr.loadAt 22 out_7) w fun t_15 w =>
    pv prog (oBi .len #[22] 3 #[false] #[t_15]) w fun t_16 w =>
    ldv prog (Instr.loadAt 3 n_1) w fun t_17 w =>
    pvv prog (binOp .geq 3 t_16 t_17) w fun t_18 w =>
    cd t_18 (
      ex_12 (.exit 0) w) <|
    dr w fun w =>
    pvv prog (Instr.sliceAt 28 b_13 none none none) w fun t_19 w =>
    bindS (vN (Instr.loadAt 22 out_7)) fun m_21 => ldv prog (Instr.loadAt 22 out_7) w fun t_20 w =>
    ef prog (oBi .append #[22, 22] 22 #[false, false] #[t_20, t_19]) w fun t_22 w =>
    efu prog (Instr.storeAt 22 out_7 t_22) w fun u_23 w =>
    ex_12 .normal w) w fun p_27 D_26 w =>
  jump (
    ldv prog (Instr.loadAt 22 out_7) w fun t_28 w =>
    ldv prog (Instr.loadAt 3 n_1) w fun t_29 w =>
    pvv prog (Instr.sliceAt 22 t_28 none (some t_29) none) w fun t_30 w =>
    und [D_26] w fun w => K (.tuple #[t_30, (.int .i64 0)]) w) (
    und [D_26] w fun w => K (.tuple #[(.slice none 0 0), (.int .i64 0)]) w) [(0, ldv prog (Instr.loadAt 22 out_7) w fun t_31 w =>
    ldv prog (Instr.loadAt 3 n_1) w fun t_32 w =>
    pvv prog (Instr.sliceAt 22 t_31 none (some t_32) none) w fun t_33 w =>
    und [D_26] w fun w => K (.tuple #[t_33, (.int .i64 0)]) w)] p_27)
theorem B73_eq (key_p0 once_p1 n_p2 : Value) (w : World) (K : Value → World → Prop) : denFn prog Tryz.f73 T73 [key_p0, once_p1, n_p2] w K = B73 key_p0 once_p1 n_p2 w K := by kernel_rfl
theorem c73 {key_p0 once_p1 n_p2 : Value} {w : World} {K : Value → World → Prop} (h : B73 key_p0 once_p1 n_p2 w K) : Calls prog 73 #[key_p0, once_p1, n_p2] w (Ret K) :=
  denFn_calls Tryz.func73 T73_ok (Eq.mpr (B73_eq key_p0 once_p1 n_p2 w K) h)

-- 36 holdfast/audit.take
def T36 : Ann := (.seq .none (.seq (.seq .none (.seq (.seq .none .none) .none)) (.seq (.draw [.op 0 .pure, .op 1 .pure, .op 2 .pure, .op 3 .pure, .op 4 .load, .op 5 .pure, .op 6 .load, .op 7 .eff]) (.seq .none .none))))
theorem T36_ok : chkFn prog Tryz.f36 T36 = true := by kernel_rfl
def B36 (r_p0 key_p1 h_p2 : Value) (w : World) (K : Value → World → Prop) : Prop :=
  efv prog (Instr.box 41 r_p0) w fun r_0 w =>
  pvv prog (Instr.fieldAt 41 r_0 0) w fun t_1 w =>
  ldv prog (Instr.loadAt 9 t_1) w fun t_2 w =>
  pvv prog (oEq .neq 9 (.tmp 8) (.tmp 9) t_2 key_p1) w fun t_3 w =>
  gate (some (t_3, false)) (fun K => pvv prog (Instr.fieldAt 41 r_0 1) w K) w fun t_4 w =>
  gate (some (t_3, false)) (fun K => ldv prog (Instr.loadAt 39 t_4) w K) w fun t_5 w =>
  gate (some (t_3, false)) (fun K => pv prog (oBi .len #[39] 3 #[false] #[t_5]) w K) w fun t_6 w =>
  gate (some (t_3, false)) (fun K => pvv prog (oEq .neq 3 (.tmp 14) (.const (.int .i64 1)) t_6 (.int .i64 1)) w K) w fun t_7 w =>
  pv prog (oPick t_3 (.bool true) t_7) w fun t_8 w =>
  gate (some (t_8, false)) (fun K => pvv prog (Instr.fieldAt 41 r_0 1) w K) w fun t_9 w =>
  gate (some (t_8, false)) (fun K => ldv prog (Instr.loadAt 39 t_9) w K) w fun t_10 w =>
  gate (some (t_8, false)) (fun K => pvv prog (Instr.indexAt 39 t_10 (.int .i64 0)) w K) w fun t_11 w =>
  gate (some (t_8, false)) (fun K => ldv prog (Instr.loadAt 9 t_11) w K) w fun t_12 w =>
  gate (some (t_8, false)) (fun K => pv prog (oBi .len #[9] 3 #[false] #[t_12]) w K) w fun t_13 w =>
  gate (some (t_8, false)) (fun K => pvv prog (oEq .neq 3 (.tmp 22) (.const (.int .i64 32)) t_13 (.int .i64 32)) w K) w fun t_14 w =>
  pv prog (oPick t_8 (.bool true) t_14) w fun t_15 w =>
  cd t_15 (
    K (.bool false) w) <|
  dr w fun w =>
  pv prog (oNil h_p2) w fun t_16 w =>
  pvv prog (Instr.sliceAt 28 t_16 none none none) w fun t_17 w =>
  pvv prog (Instr.fieldAt 41 r_0 1) w fun t_18 w =>
  bindS (vN (Instr.loadAt 39 t_18)) fun m_20 => ldv prog (Instr.loadAt 39 t_18) w fun t_19 w =>
  pvv prog (Instr.indexAt 39 t_19 (.int .i64 0)) w fun t_21 w =>
  bindS (vN (Instr.loadAt 9 t_21)) fun m_23 => ldv prog (Instr.loadAt 9 t_21) w fun t_22 w =>
  ef prog (oBi .copy #[22, 9] 3 #[false, false] #[t_17, t_22]) w fun t_24 w => stay prog none m_20 t_19 w <| 
  K (.bool true) w
theorem B36_eq (r_p0 key_p1 h_p2 : Value) (w : World) (K : Value → World → Prop) : denFn prog Tryz.f36 T36 [r_p0, key_p1, h_p2] w K = B36 r_p0 key_p1 h_p2 w K := by kernel_rfl
theorem c36 {r_p0 key_p1 h_p2 : Value} {w : World} {K : Value → World → Prop} (h : B36 r_p0 key_p1 h_p2 w K) : Calls prog 36 #[r_p0, key_p1, h_p2] w (Ret K) :=
  denFn_calls Tryz.func36 T36_ok (Eq.mpr (B36_eq r_p0 key_p1 h_p2 w K) h)

-- 72 holdfast/codec.Key
def T72 : Ann := (.seq .none (.seq (.seq .none (.seq (.seq .none .none) .none)) (.seq .none (.seq (.seq .none (.block (.loop 4294836316 [4, 17] (.seq .none (.seq (.seq .none .none) (.seq (.block (.seq .none (.seq (.seq .none (.seq (.seq .none .none) .none)) (.seq .none .none)))) .none)))))) (.seq (.seq .none (.seq (.seq .none .none) .none)) (.seq .none .none))))))
theorem T72_ok : chkFn prog Tryz.f72 T72 = true := by kernel_rfl
def B72 (parts_p0 : Value) (w : World) (K : Value → World → Prop) : Prop :=
  pv prog (oBi .len #[39] 3 #[false] #[parts_p0]) w fun t_0 w =>
  pvv prog (binOp .lss 3 t_0 (.int .i64 1)) w fun t_1 w =>
  gate (some (t_1, false)) (fun K => K parts_p0 w) w fun t_2 w =>
  gate (some (t_1, false)) (fun K => pv prog (oBi .len #[39] 3 #[false] #[t_2]) w K) w fun t_3 w =>
  gate (some (t_1, false)) (fun K => pvv prog (binOp .gtr 3 t_3 (.int .i64 8)) w K) w fun t_4 w =>
  pv prog (oPick t_1 (.bool true) t_4) w fun t_5 w =>
  cd t_5 (
    K (.tuple #[(.slice none 0 0), (.int .i64 2)]) w) <|
  pv prog (oBi .len #[39] 3 #[false] #[parts_p0]) w fun t_6 w =>
  lp (fun σ w again_9 => pop σ fun out_7 σ => pop σ fun t_8 σ => fin σ <|
    pvv prog (binOp .lss 3 t_8 t_6) w fun t_10 w =>
    cd t_10 (
      pvv prog (Instr.indexAt 39 parts_p0 t_8) w fun t_11 w =>
      ldv prog (Instr.loadAt 9 t_11) w fun t_12 w =>
      pv prog (oBi .len #[9] 3 #[false] #[t_12]) w fun t_13 w =>
      pvv prog (binOp .gtr 3 t_13 (.int .i64 64)) w fun t_14 w =>
      cd t_14 (
        K (.tuple #[(.slice none 0 0), (.int .i64 6)]) w) <|
      Calls prog 100 #[t_12, (.string ⟨#[0]⟩), (.string ⟨#[0, 255]⟩)] w (Ret fun t_15 w =>
      ef prog (oBi .append #[22, 9] 22 #[false, false] #[out_7, t_15]) w fun t_16 w =>
      efv prog (Instr.buildSlice 22 2 #[(0, (.int .u8 0)), (1, (.int .u8 1))]) w fun t_17 w =>
      ef prog (oBi .append #[22, 22] 22 #[false, false] #[t_16, t_17]) w fun t_18 w =>
      pvv prog (binOp .add 3 t_8 (.int .i64 1)) w fun t_19 w =>
      again_9 [t_18, t_19] w)) <|
    pv prog (oBi .len #[22] 3 #[false] #[out_7]) w fun t_20 w =>
    pvv prog (binOp .gtr 3 t_20 (.int .i64 64)) w fun t_21 w =>
    cd t_21 (
      K (.tuple #[(.slice none 0 0), (.int .i64 6)]) w) <|
    K (.tuple #[out_7, (.int .i64 0)]) w) [(.slice none 0 0), (.int .i64 0)] w
theorem B72_eq (parts_p0 : Value) (w : World) (K : Value → World → Prop) : denFn prog Tryz.f72 T72 [parts_p0] w K = B72 parts_p0 w K := by kernel_rfl
theorem c72 {parts_p0 : Value} {w : World} {K : Value → World → Prop} (h : B72 parts_p0 w K) : Calls prog 72 #[parts_p0] w (Ret K) :=
  denFn_calls Tryz.func72 T72_ok (Eq.mpr (B72_eq parts_p0 w K) h)

-- 127 slices.Concat[[]byte,byte]
def T127 : Ann := (.seq .none (.seq .none (.seq (.seq .none (.block (.loop 8386600 [3, 11] (.seq .none (.seq (.seq .none .none) (.meet 4186152 [3] (.block (.seq .none (.seq .none (.seq .none (.seq .none .none))))) .none)))))) (.seq .none (.seq (.seq .none (.block (.loop 34225520960 [6, 27] (.seq .none (.seq (.seq .none .none) (.seq (.block (.seq .none .none)) .none)))))) (.seq .none .none))))))
theorem T127_ok : chkFn prog Tryz.f127 T127 = true := by kernel_rfl
def B127 (slices_p0 : Value) (w : World) (K : Value → World → Prop) : Prop :=
  pv prog (oBi .len #[232] 3 #[false] #[slices_p0]) w fun t_0 w =>
  lp (fun σ w again_3 => pop σ fun size_1 σ => pop σ fun t_2 σ => fin σ <|
    pvv prog (binOp .lss 3 t_2 t_0) w fun t_4 w =>
    cd t_4 (
      jn (fun σ w => pop σ fun size_5 σ => fin σ <|
        pvv prog (binOp .add 3 t_2 (.int .i64 1)) w fun t_6 w =>
        again_3 [size_5, t_6] w) fun k_7 =>
      pvv prog (Instr.indexAt 232 slices_p0 t_2) w fun t_8 w =>
      ldv prog (Instr.loadAt 22 t_8) w fun t_9 w =>
      pv prog (oBi .len #[22] 3 #[false] #[t_9]) w fun t_10 w =>
      pvv prog (binOp .add 3 size_1 t_10) w fun t_11 w =>
      pvv prog (binOp .lss 3 t_11 (.int .i64 0)) w fun t_12 w =>
      cd t_12 (
        pvv prog (Instr.makeInterface 9 (.string ⟨#[108, 101, 110, 32, 111, 117, 116, 32, 111, 102, 32, 114, 97, 110, 103, 101]⟩)) w fun t_13 w =>
        efv prog (Instr.panic t_13) w fun u_14 w =>
        k_7 [t_11] w) <|
      k_7 [t_11] w) <|
    Calls prog 158 #[(.slice none 0 0), size_1] w (Ret fun t_15 w =>
    pv prog (oBi .len #[232] 3 #[false] #[slices_p0]) w fun t_16 w =>
    lp (fun σ w again_19 => pop σ fun newslice_17 σ => pop σ fun t_18 σ => fin σ <|
      pvv prog (binOp .lss 3 t_18 t_16) w fun t_20 w =>
      cd t_20 (
        pvv prog (Instr.indexAt 232 slices_p0 t_18) w fun t_21 w =>
        ldv prog (Instr.loadAt 22 t_21) w fun t_22 w =>
        ef prog (oBi .append #[22, 22] 22 #[false, false] #[newslice_17, t_22]) w fun t_23 w =>
        pvv prog (binOp .add 3 t_18 (.int .i64 1)) w fun t_24 w =>
        again_19 [t_23, t_24] w) <|
      K newslice_17 w) [t_15, (.int .i64 0)] w)) [(.int .i64 0), (.int .i64 0)] w
theorem B127_eq (slices_p0 : Value) (w : World) (K : Value → World → Prop) : denFn prog Tryz.f127 T127 [slices_p0] w K = B127 slices_p0 w K := by kernel_rfl
theorem c127 {slices_p0 : Value} {w : World} {K : Value → World → Prop} (h : B127 slices_p0 w K) : Calls prog 127 #[slices_p0] w (Ret K) :=
  denFn_calls Tryz.func127 T127_ok (Eq.mpr (B127_eq slices_p0 w K) h)

-- 47 (*holdfast/cred.Book).end
def T47 : Ann := (.seq .none (.seq .none (.meet 33552384 [11] (.block (.seq .none (.seq .none (.seq .none (.seq (.seq .none .none) .none))))) (.seq (.draw [.op 0 .pure, .op 1 .pure, .op 2 .pure, .op 3 .load, .op 4 .load, .op 5 .load, .op 6 .eff]) (.seq .none .none)))))
theorem T47_ok : chkFn prog Tryz.f47 T47 = true := by kernel_rfl
def B47 (b_p0 o_p1 r_p2 now_p3 right_p4 : Value) (w : World) (K : Value → World → Prop) : Prop :=
  efv prog (Instr.box 54 o_p1) w fun o_0 w =>
  efv prog (Instr.box 105 r_p2) w fun r_1 w =>
  jn (fun σ w => pop σ fun e_2 σ => fin σ <|
    dr w fun w =>
    pv prog (oNil b_p0) w fun t_3 w =>
    pvv prog (Instr.fieldAt 100 t_3 0) w fun t_4 w =>
    bindS (vN (Instr.loadAt 98 t_4)) fun m_6 => ldv prog (Instr.loadAt 98 t_4) w fun t_5 w =>
    bindS (vN (Instr.loadAt 54 o_0)) fun m_8 => ldv prog (Instr.loadAt 54 o_0) w fun t_7 w =>
    bindS (vN (Instr.loadAt 105 r_1)) fun m_10 => ldv prog (Instr.loadAt 105 r_1) w fun t_9 w =>
    efu prog (Instr.mapUpdate 98 t_5 t_7 t_9) w fun u_11 w =>
    K e_2 w) fun k_13 =>
  cd right_p4 (
    pvv prog (Instr.build 102 #[]) w fun t_14 w =>
    pvv prog (Instr.fieldAt 105 r_1 0) w fun t_15 w =>
    efu prog (Instr.storeAt 102 t_15 t_14) w fun u_16 w =>
    k_13 [(.int .i64 0)] w) <|
  pvv prog (Instr.fieldAt 105 r_1 0) w fun t_17 w =>
  pvv prog (Instr.fieldAt 102 t_17 0) w fun t_18 w =>
  ldv prog (Instr.loadAt 3 t_18) w fun t_19 w =>
  pvv prog (binOp .geq 3 t_19 (.int .i64 3)) w fun t_20 w =>
  cd t_20 (
    pvv prog (binOp .add 3 now_p3 (.int .i64 100)) w fun t_21 w =>
    pvv prog (Instr.fieldAt 105 r_1 0) w fun t_22 w =>
    pvv prog (Instr.fieldAt 102 t_22 1) w fun t_23 w =>
    efu prog (Instr.storeAt 3 t_23 t_21) w fun u_24 w =>
    k_13 [(.int .i64 10)] w) <|
  k_13 [(.int .i64 10)] w
theorem B47_eq (b_p0 o_p1 r_p2 now_p3 right_p4 : Value) (w : World) (K : Value → World → Prop) : denFn prog Tryz.f47 T47 [b_p0, o_p1, r_p2, now_p3, right_p4] w K = B47 b_p0 o_p1 r_p2 now_p3 right_p4 w K := by kernel_rfl
theorem c47 {b_p0 o_p1 r_p2 now_p3 right_p4 : Value} {w : World} {K : Value → World → Prop} (h : B47 b_p0 o_p1 r_p2 now_p3 right_p4 w K) : Calls prog 47 #[b_p0, o_p1, r_p2, now_p3, right_p4] w (Ret K) :=
  denFn_calls Tryz.func47 T47_ok (Eq.mpr (B47_eq b_p0 o_p1 r_p2 now_p3 right_p4 w K) h)

-- 126 holdfast/seal.blocks$1
def T126 : Ann := (.seq .none (.block (.loop 262128 [4] (.seq (.seq (.draw [.op 0 .pure, .op 1 .pure, .op 5 .pure, .op 3 .load, .par [⟨2, .eff, (some 7), []⟩, ⟨4, .eff, (some 9), []⟩, ⟨6, .eff, (some 11), []⟩], .op 7 .eff, .op 8 .eff, .op 9 .eff, .op 10 .eff]) (.seq .none .none)) (.seq (.block .none) .none)))))
theorem T126_ok : chkFn prog Tryz.f126 T126 = true := by kernel_rfl
def B126 (yield_p0 x_p1 x_p2 : Value) (w : World) (K : Value → World → Prop) : Prop :=
  lp (fun σ w again_1 => pop σ fun i_0 σ => fin σ <|
    dr w fun w =>
    pvv prog (Instr.sliceAt 28 x_p1 none none none) w fun t_2 w =>
    bindS (vN (Instr.loadAt 79 x_p2)) fun m_4 => ldv prog (Instr.loadAt 79 x_p2) w fun t_3 w =>
    par 3 w fun J_5 =>
      (∀ (σ : List (Option Value)) (w : World), J_5 σ w → un σ 0 (efv prog (Instr.buildSlice 22 1 #[(0, (.int .u8 115))]) w fun v_6 w => stay prog none m_4 t_3 w <| J_5 (σ.set 0 (some v_6)) w)) ∧
      (∀ (σ : List (Option Value)) (w : World), J_5 σ w → un σ 1 (Calls prog 55 #[t_3] w (Ret fun v_7 w => J_5 (σ.set 1 (some v_7)) w))) ∧
      (∀ (σ : List (Option Value)) (w : World), J_5 σ w → un σ 2 (Calls prog 55 #[i_0] w (Ret fun v_8 w => stay prog none m_4 t_3 w <| J_5 (σ.set 2 (some v_8)) w))) ∧
      ∀ (σ : List (Option Value)) (w : World), J_5 σ w → is σ 0 fun t_9 => is σ 1 fun t_10 => is σ 2 fun t_11 => 
      efv prog (Instr.buildSlice 232 3 #[(0, t_9), (1, t_10), (2, t_11)]) w fun t_12 w => stay prog none m_4 t_3 w <| 
      Calls prog 127 #[t_12] w (Ret fun t_13 w => stay prog none m_4 t_3 w <| 
      Calls prog 68 #[t_2, t_13] w (Ret fun t_14 w => stay prog none m_4 t_3 w <| 
      ef prog (oCall yield_p0 #[t_14]) w fun t_15 w => stay prog none m_4 t_3 w <| 
      cd t_15 (
        pvv prog (binOp .add 79 i_0 (.int .u64 1)) w fun t_16 w =>
        again_1 [t_16] w) <|
      K (.tuple #[]) w))) [(.int .u64 0)] w
theorem B126_eq (yield_p0 x_p1 x_p2 : Value) (w : World) (K : Value → World → Prop) : denFn prog Tryz.f126 T126 [yield_p0, x_p1, x_p2] w K = B126 yield_p0 x_p1 x_p2 w K := by kernel_rfl
theorem c126 {yield_p0 x_p1 x_p2 : Value} {w : World} {K : Value → World → Prop} (h : B126 yield_p0 x_p1 x_p2 w K) : Calls prog 126 #[yield_p0, x_p1, x_p2] w (Ret K) :=
  denFn_calls Tryz.func126 T126_ok (Eq.mpr (B126_eq yield_p0 x_p1 x_p2 w K) h)

-- 153 strings.IndexRune
def T153 : Ann := (.seq .none (.block (.seq .none (.seq (.seq .none .none) (.seq .none (.seq (.seq (.seq .none (.block (.loop 12164183355622992813219379528005579144973741782332342384 [] (.seq .none (.seq (.seq .none .none) (.block (.seq .none (.seq .none (.seq (.seq .none .none) .none))))))))) (.seq .none .none)) (.seq .none (.seq (.seq .none .none) .none))))))))
theorem T153_ok : chkFn prog Tryz.f153 T153 = true := by kernel_rfl
def B153 (s_p0 r_p1 : Value) (w : World) (K : Value → World → Prop) : Prop :=
  pvv prog (binOp .leq 21 (.int .i32 0) r_p1) w fun t_0 w =>
  gate (some (t_0, true)) (fun K => K r_p1 w) w fun t_1 w =>
  gate (some (t_0, true)) (fun K => pvv prog (binOp .lss 21 t_1 (.int .i32 128)) w K) w fun t_2 w =>
  pv prog (oPick t_0 t_2 (.bool false)) w fun t_3 w =>
  cd t_3 (
    pvv prog (convert 21 5 r_p1) w fun t_4 w =>
    Calls prog 180 #[s_p0, t_4] w (Ret fun t_5 w =>
    K t_5 w)) <|
  pvv prog (oEq .eql 21 (.tmp 172) (.const (.int .i32 65533)) r_p1 (.int .i32 65533)) w fun t_6 w =>
  cd t_6 (
    efv prog (Instr.range 9 s_p0) w fun t_7 w =>
    lp (fun σ w again_8 => fin σ <|
      efv prog (Instr.next t_7 true 0) w fun t_9 w =>
      pvv prog (Instr.extract t_9 0) w fun t_10 w =>
      cd t_10 (
        pvv prog (Instr.extract t_9 1) w fun t_11 w =>
        pvv prog (Instr.extract t_9 2) w fun t_12 w =>
        pvv prog (oEq .eql 21 (.tmp 180) (.const (.int .i32 65533)) t_12 (.int .i32 65533)) w fun t_13 w =>
        cd t_13 (
          K t_11 w) <|
        again_8 [] w) <|
      K (.int .i64 (-1)) w) [] w) <|
  Calls prog 181 #[r_p1] w (Ret fun t_14 w =>
  pvv prog (Op.unary .not t_14) w fun t_15 w =>
  cd t_15 (
    K (.int .i64 (-1)) w) <|
  False)
theorem B153_eq (s_p0 r_p1 : Value) (w : World) (K : Value → World → Prop) : denFn prog Tryz.f153 T153 [s_p0, r_p1] w K = B153 s_p0 r_p1 w K := by kernel_rfl
theorem c153 {s_p0 r_p1 : Value} {w : World} {K : Value → World → Prop} (h : B153 s_p0 r_p1 w K) : Calls prog 153 #[s_p0, r_p1] w (Ret K) :=
  denFn_calls Tryz.func153 T153_ok (Eq.mpr (B153_eq s_p0 r_p1 w K) h)

-- 155 (*strings.Builder).Grow
def T155 : Ann := (.seq .none (.meet 448 [] (.seq .none (.seq .none .none)) (.seq (.draw [.op 0 .pure, .op 1 .pure, .op 2 .pure, .op 5 .pure, .op 6 .pure, .op 7 .pure, .op 11 .pure, .op 3 .load, .op 4 .pure, .op 8 .load, .op 9 .pure, .op 10 .pure, .op 12 .pure]) (.seq .none .none))))
theorem T155_ok : chkFn prog Tryz.f155 T155 = true := by kernel_rfl
def B155 (b_p0 n_p1 : Value) (w : World) (K : Value → World → Prop) : Prop :=
  Calls prog 182 #[b_p0] w (Ret fun t_0 w =>
  jn (fun σ w => fin σ <|
    dr w fun w =>
    pv prog (oNil b_p0) w fun t_1 w =>
    pvv prog (Instr.fieldAt 227 t_1 1) w fun t_2 w =>
    pv prog (oNil b_p0) w fun t_3 w =>
    pvv prog (Instr.fieldAt 227 t_3 1) w fun t_4 w =>
    bindS (vN (Instr.loadAt 22 t_2)) fun m_6 => ldv prog (Instr.loadAt 22 t_2) w fun t_5 w =>
    pv prog (oBi .cap #[22] 3 #[false] #[t_5]) w fun t_7 w =>
    bindS (vN (Instr.loadAt 22 t_4)) fun m_9 => ldv prog (Instr.loadAt 22 t_4) w fun t_8 w =>
    pv prog (oBi .len #[22] 3 #[false] #[t_8]) w fun t_10 w =>
    pvv prog (binOp .sub 3 t_7 t_10) w fun t_11 w =>
    pvv prog (binOp .lss 3 t_11 n_p1) w fun t_12 w =>
    cd t_12 (
      Calls prog 183 #[b_p0, n_p1] w (Ret fun t_13 w =>
      K (.tuple #[]) w)) <|
    K (.tuple #[]) w) fun k_14 =>
  pvv prog (binOp .lss 3 n_p1 (.int .i64 0)) w fun t_15 w =>
  cd t_15 (
    pvv prog (Instr.makeInterface 9 (.string ⟨#[115, 116, 114, 105, 110, 103, 115, 46, 66, 117, 105, 108, 100, 101, 114, 46, 71, 114, 111, 119, 58, 32, 110, 101, 103, 97, 116, 105, 118, 101, 32, 99, 111, 117, 110, 116]⟩)) w fun t_16 w =>
    efv prog (Instr.panic t_16) w fun u_17 w =>
    k_14 [] w) <|
  k_14 [] w)
theorem B155_eq (b_p0 n_p1 : Value) (w : World) (K : Value → World → Prop) : denFn prog Tryz.f155 T155 [b_p0, n_p1] w K = B155 b_p0 n_p1 w K := by kernel_rfl
theorem c155 {b_p0 n_p1 : Value} {w : World} {K : Value → World → Prop} (h : B155 b_p0 n_p1 w K) : Calls prog 155 #[b_p0, n_p1] w (Ret K) :=
  denFn_calls Tryz.func155 T155_ok (Eq.mpr (B155_eq b_p0 n_p1 w K) h)

-- 9 (*holdfast/audit.Chain).Anchor
def T9 : Ann := (.seq .none (.seq (.seq .none (.seq (.seq .none .none) .none)) (.seq (.draw [.op 0 .pure, .op 1 .pure, .op 3 .pure, .op 4 .pure, .op 5 .pure, .op 6 .load, .op 2 .eff, .op 7 .pure, .op 8 .pure, .op 9 .pure, .op 10 .eff]) (.seq .none .none))))
theorem T9_ok : chkFn prog Tryz.f9 T9 = true := by kernel_rfl
def B9 (c_p0 : Value) (w : World) (K : Value → World → Prop) : Prop :=
  efv prog (Instr.alloc 28 true (.tuple #[])) w fun t_0 w =>
  pvv prog (oEq .eql 23 (.tmp 4) (.const (.pointer none)) c_p0 (.pointer none)) w fun t_1 w =>
  cd t_1 (
    pvv prog (Instr.build 28 #[]) w fun t_2 w =>
    efu prog (Instr.storeAt 28 t_0 t_2) w fun u_3 w =>
    ∃ r_4, (do loadVar 28 (← asAddr t_0)).run prog w = .ok r_4 w ∧ K (.tuple #[(.int .i64 0), r_4]) w) <|
  dr w fun w =>
  pv prog (oNil c_p0) w fun t_5 w =>
  pvv prog (Instr.fieldAt 69 t_5 2) w fun t_6 w =>
  bindS (vN (Instr.loadAt 28 t_6)) fun m_8 => ldv prog (Instr.loadAt 28 t_6) w fun t_7 w =>
  Calls prog 27 #[c_p0] w (Ret fun t_9 w => stay prog none m_8 t_7 w <| 
  pvv prog (Instr.build 66 #[(0, t_9), (1, t_7)]) w fun t_10 w =>
  pv prog (oNil c_p0) w fun t_11 w =>
  pvv prog (Instr.fieldAt 69 t_11 1) w fun t_12 w =>
  efu prog (Instr.storeAt 66 t_12 t_10) w fun u_13 w =>
  Calls prog 29 #[c_p0] w (Ret fun t_14 w =>
  pvv prog (Instr.extract t_14 0) w fun t_15 w =>
  pvv prog (Instr.extract t_14 1) w fun t_16 w =>
  efu prog (Instr.storeAt 28 t_0 t_16) w fun u_17 w =>
  ∃ r_18, (do loadVar 28 (← asAddr t_0)).run prog w = .ok r_18 w ∧ K (.tuple #[t_15, r_18]) w))
theorem B9_eq (c_p0 : Value) (w : World) (K : Value → World → Prop) : denFn prog Tryz.f9 T9 [c_p0] w K = B9 c_p0 w K := by kernel_rfl
theorem c9 {c_p0 : Value} {w : World} {K : Value → World → Prop} (h : B9 c_p0 w K) : Calls prog 9 #[c_p0] w (Ret K) :=
  denFn_calls Tryz.func9 T9_ok (Eq.mpr (B9_eq c_p0 w K) h)

-- 158 slices.Grow[[]byte,byte]
def T158 : Ann := (.seq .none (.meet 224 [] (.seq .none (.seq .none .none)) (.meet 67108611 [0] (.seq .none (.seq .none (.seq .none .none))) (.seq .none .none))))
theorem T158_ok : chkFn prog Tryz.f158 T158 = true := by kernel_rfl
def B158 (s_p0 n_p1 : Value) (w : World) (K : Value → World → Prop) : Prop :=
  jn (fun σ w => fin σ <|
    jn (fun σ w => pop σ fun s_0 σ => fin σ <|
      K s_0 w) fun k_1 =>
    pv prog (oBi .cap #[22] 3 #[false] #[s_p0]) w fun t_2 w =>
    pv prog (oBi .len #[22] 3 #[false] #[s_p0]) w fun t_3 w =>
    pvv prog (binOp .sub 3 t_2 t_3) w fun t_4 w =>
    pvv prog (binOp .sub 3 n_p1 t_4) w fun t_5 w =>
    pvv prog (binOp .gtr 3 t_5 (.int .i64 0)) w fun t_6 w =>
    cd t_6 (
      pv prog (oBi .cap #[22] 3 #[false] #[s_p0]) w fun t_7 w =>
      pvv prog (Instr.sliceAt 22 s_p0 none (some t_7) none) w fun t_8 w =>
      ef prog (oBi .append #[22, 3] 22 #[false, false] #[t_8, t_5]) w fun t_9 w =>
      pv prog (oBi .len #[22] 3 #[false] #[s_p0]) w fun t_10 w =>
      pvv prog (Instr.sliceAt 22 t_9 none (some t_10) none) w fun t_11 w =>
      k_1 [t_11] w) <|
    k_1 [s_p0] w) fun k_12 =>
  pvv prog (binOp .lss 3 n_p1 (.int .i64 0)) w fun t_13 w =>
  cd t_13 (
    pvv prog (Instr.makeInterface 9 (.string ⟨#[99, 97, 110, 110, 111, 116, 32, 98, 101, 32, 110, 101, 103, 97, 116, 105, 118, 101]⟩)) w fun t_14 w =>
    efv prog (Instr.panic t_14) w fun u_15 w =>
    k_12 [] w) <|
  k_12 [] w
theorem B158_eq (s_p0 n_p1 : Value) (w : World) (K : Value → World → Prop) : denFn prog Tryz.f158 T158 [s_p0, n_p1] w K = B158 s_p0 n_p1 w K := by kernel_rfl
theorem c158 {s_p0 n_p1 : Value} {w : World} {K : Value → World → Prop} (h : B158 s_p0 n_p1 w K) : Calls prog 158 #[s_p0, n_p1] w (Ret K) :=
  denFn_calls Tryz.func158 T158_ok (Eq.mpr (B158_eq s_p0 n_p1 w K) h)

-- 29 (*holdfast/audit.Chain).Anchored
def T29 : Ann := (.seq .none (.seq (.seq .none (.seq (.seq .none .none) .none)) (.seq (.draw [.op 0 .pure, .op 1 .pure, .op 2 .pure, .op 3 .pure, .op 5 .pure, .op 6 .pure, .op 7 .pure, .op 8 .pure, .op 4 .load, .op 10 .pure, .op 9 .load, .op 11 .eff]) .none)))
theorem T29_ok : chkFn prog Tryz.f29 T29 = true := by kernel_rfl
def B29 (c_p0 : Value) (w : World) (K : Value → World → Prop) : Prop :=
  efv prog (Instr.alloc 28 true (.tuple #[])) w fun t_0 w =>
  pvv prog (oEq .eql 23 (.tmp 4) (.const (.pointer none)) c_p0 (.pointer none)) w fun t_1 w =>
  cd t_1 (
    pvv prog (Instr.build 28 #[]) w fun t_2 w =>
    efu prog (Instr.storeAt 28 t_0 t_2) w fun u_3 w =>
    ∃ r_4, (do loadVar 28 (← asAddr t_0)).run prog w = .ok r_4 w ∧ K (.tuple #[(.int .i64 0), r_4]) w) <|
  dr w fun w =>
  pv prog (oNil c_p0) w fun t_5 w =>
  pvv prog (Instr.fieldAt 69 t_5 1) w fun t_6 w =>
  pvv prog (Instr.fieldAt 66 t_6 0) w fun t_7 w =>
  pv prog (oNil c_p0) w fun t_8 w =>
  pvv prog (Instr.fieldAt 69 t_8 1) w fun t_9 w =>
  pvv prog (Instr.fieldAt 66 t_9 1) w fun t_10 w =>
  bindS (vN (Instr.loadAt 3 t_7)) fun m_12 => ldv prog (Instr.loadAt 3 t_7) w fun t_11 w =>
  bindS (vN (Instr.loadAt 28 t_10)) fun m_14 => ldv prog (Instr.loadAt 28 t_10) w fun t_13 w =>
  efu prog (Instr.storeAt 28 t_0 t_13) w fun u_15 w =>
  ∃ r_16, (do loadVar 28 (← asAddr t_0)).run prog w = .ok r_16 w ∧ K (.tuple #[t_11, r_16]) w
theorem B29_eq (c_p0 : Value) (w : World) (K : Value → World → Prop) : denFn prog Tryz.f29 T29 [c_p0] w K = B29 c_p0 w K := by kernel_rfl
theorem c29 {c_p0 : Value} {w : World} {K : Value → World → Prop} (h : B29 c_p0 w K) : Calls prog 29 #[c_p0] w (Ret K) :=
  denFn_calls Tryz.func29 T29_ok (Eq.mpr (B29_eq c_p0 w K) h)

-- 54 holdfast/hash.Derive
def T54 : Ann := (.seq .none (.seq .none (.seq (.seq .none (.seq (.seq .none .none) .none)) (.seq .none .none))))
theorem T54_ok : chkFn prog Tryz.f54 T54 = true := by kernel_rfl
def B54 (key_p0 labels_p1 : Value) (w : World) (K : Value → World → Prop) : Prop :=
  efv prog (Instr.box 28 key_p0) w fun key_0 w =>
  efv prog (Instr.alloc 28 true (.tuple #[])) w fun t_1 w =>
  Calls prog 72 #[labels_p1] w (Ret fun t_2 w =>
  pvv prog (Instr.extract t_2 0) w fun t_3 w =>
  pvv prog (Instr.extract t_2 1) w fun t_4 w =>
  pvv prog (oEq .neq 32 (.tmp 13) (.const (.int .i64 0)) t_4 (.int .i64 0)) w fun t_5 w =>
  cd t_5 (
    pvv prog (Instr.build 28 #[]) w fun t_6 w =>
    efu prog (Instr.storeAt 28 t_1 t_6) w fun u_7 w =>
    ∃ r_8, (do loadVar 28 (← asAddr t_1)).run prog w = .ok r_8 w ∧ K (.tuple #[r_8, t_4]) w) <|
  pvv prog (Instr.sliceAt 28 key_0 none none none) w fun t_9 w =>
  Calls prog 68 #[t_9, t_3] w (Ret fun t_10 w =>
  efu prog (Instr.storeAt 28 t_1 t_10) w fun u_11 w =>
  ∃ r_12, (do loadVar 28 (← asAddr t_1)).run prog w = .ok r_12 w ∧ K (.tuple #[r_12, (.int .i64 0)]) w))
theorem B54_eq (key_p0 labels_p1 : Value) (w : World) (K : Value → World → Prop) : denFn prog Tryz.f54 T54 [key_p0, labels_p1] w K = B54 key_p0 labels_p1 w K := by kernel_rfl
theorem c54 {key_p0 labels_p1 : Value} {w : World} {K : Value → World → Prop} (h : B54 key_p0 labels_p1 w K) : Calls prog 54 #[key_p0, labels_p1] w (Ret K) :=
  denFn_calls Tryz.func54 T54_ok (Eq.mpr (B54_eq key_p0 labels_p1 w K) h)

-- 27 (*holdfast/audit.Chain).Count
def T27 : Ann := (.seq .none (.seq (.seq .none (.seq (.seq .none .none) .none)) (.seq (.draw [.op 0 .pure, .op 1 .pure, .op 2 .pure, .op 3 .pure, .op 5 .pure, .op 6 .pure, .op 7 .pure, .op 4 .load, .op 8 .load, .op 9 .pure, .op 10 .pure, .op 11 .pure]) .none)))
theorem T27_ok : chkFn prog Tryz.f27 T27 = true := by kernel_rfl
def B27 (c_p0 : Value) (w : World) (K : Value → World → Prop) : Prop :=
  pvv prog (oEq .eql 23 (.tmp 3) (.const (.pointer none)) c_p0 (.pointer none)) w fun t_0 w =>
  cd t_0 (
    K (.int .i64 0) w) <|
  dr w fun w =>
  pv prog (oNil c_p0) w fun t_1 w =>
  pvv prog (Instr.fieldAt 69 t_1 0) w fun t_2 w =>
  pvv prog (Instr.fieldAt 66 t_2 0) w fun t_3 w =>
  pv prog (oNil c_p0) w fun t_4 w =>
  pvv prog (Instr.fieldAt 69 t_4 4) w fun t_5 w =>
  bindS (vN (Instr.loadAt 3 t_3)) fun m_7 => ldv prog (Instr.loadAt 3 t_3) w fun t_6 w =>
  bindS (vN (Instr.loadAt 67 t_5)) fun m_9 => ldv prog (Instr.loadAt 67 t_5) w fun t_8 w =>
  pv prog (oBi .len #[67] 3 #[false] #[t_8]) w fun t_10 w =>
  pvv prog (binOp .add 3 t_6 t_10) w fun t_11 w =>
  K t_11 w
theorem B27_eq (c_p0 : Value) (w : World) (K : Value → World → Prop) : denFn prog Tryz.f27 T27 [c_p0] w K = B27 c_p0 w K := by kernel_rfl
theorem c27 {c_p0 : Value} {w : World} {K : Value → World → Prop} (h : B27 c_p0 w K) : Calls prog 27 #[c_p0] w (Ret K) :=
  denFn_calls Tryz.func27 T27_ok (Eq.mpr (B27_eq c_p0 w K) h)

-- 102 internal/stringslite.HasPrefix
def T102 : Ann := (.seq .none (.seq .none .none))
theorem T102_ok : chkFn prog Tryz.f102 T102 = true := by kernel_rfl
def B102 (s_p0 prefix_p1 : Value) (w : World) (K : Value → World → Prop) : Prop :=
  pv prog (oBi .len #[9] 3 #[false] #[s_p0]) w fun t_0 w =>
  pv prog (oBi .len #[9] 3 #[false] #[prefix_p1]) w fun t_1 w =>
  pvv prog (binOp .geq 3 t_0 t_1) w fun t_2 w =>
  gate (some (t_2, true)) (fun K => K s_p0 w) w fun t_3 w =>
  gate (some (t_2, true)) (fun K => K prefix_p1 w) w fun t_4 w =>
  gate (some (t_2, true)) (fun K => pv prog (oBi .len #[9] 3 #[false] #[t_4]) w K) w fun t_5 w =>
  gate (some (t_2, true)) (fun K => pvv prog (Instr.sliceAt 9 t_3 none (some t_5) none) w K) w fun t_6 w =>
  gate (some (t_2, true)) (fun K => K prefix_p1 w) w fun t_7 w =>
  gate (some (t_2, true)) (fun K => pvv prog (oEq .eql 9 (.tmp 14) (.tmp 15) t_6 t_7) w K) w fun t_8 w =>
  pv prog (oPick t_2 t_8 (.bool false)) w fun t_9 w =>
  K t_9 w
theorem B102_eq (s_p0 prefix_p1 : Value) (w : World) (K : Value → World → Prop) : denFn prog Tryz.f102 T102 [s_p0, prefix_p1] w K = B102 s_p0 prefix_p1 w K := by kernel_rfl
theorem c102 {s_p0 prefix_p1 : Value} {w : World} {K : Value → World → Prop} (h : B102 s_p0 prefix_p1 w K) : Calls prog 102 #[s_p0, prefix_p1] w (Ret K) :=
  denFn_calls Tryz.func102 T102_ok (Eq.mpr (B102_eq s_p0 prefix_p1 w K) h)

-- 96 strings.trimLeftASCII
def T96 : Ann := (.seq .none (.meet 32737 [0] (.block (.loop 32737 [0] (.seq (.seq .none (.seq .none .none)) (.block (.seq (.seq .none (.seq .none .none)) .none))))) (.seq .none .none)))
theorem T96_ok : chkFn prog Tryz.f96 T96 = true := by kernel_rfl
def B96 (s_p0 as_p1 : Value) (w : World) (K : Value → World → Prop) : Prop :=
  jn (fun σ w => pop σ fun s_0 σ => fin σ <|
    K s_0 w) fun k_1 =>
  lp (fun σ w again_3 => pop σ fun s_2 σ => fin σ <|
    pv prog (oBi .len #[9] 3 #[false] #[s_2]) w fun t_4 w =>
    pvv prog (binOp .gtr 3 t_4 (.int .i64 0)) w fun t_5 w =>
    cd t_5 (
      pvv prog (Instr.index 9 s_2 (.int .i64 0)) w fun t_6 w =>
      Calls prog 121 #[as_p1, t_6] w (Ret fun t_7 w =>
      pvv prog (Op.unary .not t_7) w fun t_8 w =>
      cd t_8 (
        k_1 [s_2] w) <|
      pvv prog (Instr.sliceAt 9 s_2 (some (.int .i64 1)) none none) w fun t_9 w =>
      again_3 [t_9] w)) <|
    k_1 [s_2] w) [s_p0] w
theorem B96_eq (s_p0 as_p1 : Value) (w : World) (K : Value → World → Prop) : denFn prog Tryz.f96 T96 [s_p0, as_p1] w K = B96 s_p0 as_p1 w K := by kernel_rfl
theorem c96 {s_p0 as_p1 : Value} {w : World} {K : Value → World → Prop} (h : B96 s_p0 as_p1 w K) : Calls prog 96 #[s_p0, as_p1] w (Ret K) :=
  denFn_calls Tryz.func96 T96_ok (Eq.mpr (B96_eq s_p0 as_p1 w K) h)

-- 159 internal/stringslite.Clone
def T159 : Ann := (.seq .none (.seq (.seq .none (.seq (.seq .none .none) .none)) (.seq .none (.seq .none (.seq .none .none)))))
theorem T159_ok : chkFn prog Tryz.f159 T159 = true := by kernel_rfl
def B159 (s_p0 : Value) (w : World) (K : Value → World → Prop) : Prop :=
  pv prog (oBi .len #[9] 3 #[false] #[s_p0]) w fun t_0 w =>
  pvv prog (oEq .eql 3 (.tmp 5) (.const (.int .i64 0)) t_0 (.int .i64 0)) w fun t_1 w =>
  cd t_1 (
    K (.string ⟨#[]⟩) w) <|
  pv prog (oBi .len #[9] 3 #[false] #[s_p0]) w fun t_2 w =>
  efv prog (Instr.makeSlice 22 t_2 t_2) w fun t_3 w =>
  ef prog (oBi .copy #[22, 9] 3 #[false, false] #[t_3, s_p0]) w fun t_4 w =>
  pvv prog (Instr.indexAt 22 t_3 (.int .i64 0)) w fun t_5 w =>
  pv prog (oBi .len #[22] 3 #[false] #[t_3]) w fun t_6 w =>
  ef prog (oBi .unsafeString #[250, 3] 9 #[false, false] #[t_5, t_6]) w fun t_7 w =>
  K t_7 w
theorem B159_eq (s_p0 : Value) (w : World) (K : Value → World → Prop) : denFn prog Tryz.f159 T159 [s_p0] w K = B159 s_p0 w K := by kernel_rfl
theorem c159 {s_p0 : Value} {w : World} {K : Value → World → Prop} (h : B159 s_p0 w K) : Calls prog 159 #[s_p0] w (Ret K) :=
  denFn_calls Tryz.func159 T159_ok (Eq.mpr (B159_eq s_p0 w K) h)

-- 171 cmp.Less[string]
def T171 : Ann := (.seq .none (.seq .none .none))
theorem T171_ok : chkFn prog Tryz.f171 T171 = true := by kernel_rfl
def B171 (x_p0 y_p1 : Value) (w : World) (K : Value → World → Prop) : Prop :=
  Calls prog 65 #[x_p0] w (Ret fun t_0 w =>
  gate (some (t_0, true)) (fun K => K y_p1 w) w fun t_1 w =>
  gate (some (t_0, true)) (fun K => Calls prog 65 #[t_1] w (Ret K)) w fun t_2 w =>
  gate (some (t_0, true)) (fun K => pvv prog (Op.unary .not t_2) w K) w fun t_3 w =>
  pv prog (oPick t_0 t_3 (.bool false)) w fun t_4 w =>
  gate (some (t_4, false)) (fun K => K x_p0 w) w fun t_5 w =>
  gate (some (t_4, false)) (fun K => K y_p1 w) w fun t_6 w =>
  gate (some (t_4, false)) (fun K => pvv prog (binOp .lss 9 t_5 t_6) w K) w fun t_7 w =>
  pv prog (oPick t_4 (.bool true) t_7) w fun t_8 w =>
  K t_8 w)
theorem B171_eq (x_p0 y_p1 : Value) (w : World) (K : Value → World → Prop) : denFn prog Tryz.f171 T171 [x_p0, y_p1] w K = B171 x_p0 y_p1 w K := by kernel_rfl
theorem c171 {x_p0 y_p1 : Value} {w : World} {K : Value → World → Prop} (h : B171 x_p0 y_p1 w K) : Calls prog 171 #[x_p0, y_p1] w (Ret K) :=
  denFn_calls Tryz.func171 T171_ok (Eq.mpr (B171_eq x_p0 y_p1 w K) h)

-- 130 strconv.syntaxError
def T130 : Ann := (.seq .none (.seq (.draw [.op 0 .pure, .op 1 .pure, .op 3 .load, .op 2 .eff, .op 4 .pure, .op 5 .eff, .op 6 .pure]) .none))
theorem T130_ok : chkFn prog Tryz.f130 T130 = true := by kernel_rfl
def B130 (fn_p0 str_p1 : Value) (w : World) (K : Value → World → Prop) : Prop :=
  dr w fun w =>
  bindS (vN (Instr.loadAt 151 (.pointer (some ⟨1, 0, none⟩)))) fun m_1 => ldv prog (Instr.loadAt 151 (.pointer (some ⟨1, 0, none⟩))) w fun t_0 w =>
  Calls prog 159 #[str_p1] w (Ret fun t_2 w => stay prog none m_1 t_0 w <| 
  pvv prog (Instr.build 236 #[(0, fn_p0), (1, t_2), (2, t_0)]) w fun t_3 w =>
  efv prog (Instr.box 236 t_3) w fun t_4 w => stay prog none m_1 t_0 w <| 
  K t_4 w)
theorem B130_eq (fn_p0 str_p1 : Value) (w : World) (K : Value → World → Prop) : denFn prog Tryz.f130 T130 [fn_p0, str_p1] w K = B130 fn_p0 str_p1 w K := by kernel_rfl
theorem c130 {fn_p0 str_p1 : Value} {w : World} {K : Value → World → Prop} (h : B130 fn_p0 str_p1 w K) : Calls prog 130 #[fn_p0, str_p1] w (Ret K) :=
  denFn_calls Tryz.func130 T130_ok (Eq.mpr (B130_eq fn_p0 str_p1 w K) h)

-- 51 holdfast/hash.Chain
def T51 : Ann := (.seq .none (.seq .none .none))
theorem T51_ok : chkFn prog Tryz.f51 T51 = true := by kernel_rfl
def B51 (h_p0 b_p1 : Value) (w : World) (K : Value → World → Prop) : Prop :=
  efv prog (Instr.box 28 h_p0) w fun h_0 w =>
  efv prog (Instr.alloc 28 true (.tuple #[])) w fun t_1 w =>
  pvv prog (Instr.sliceAt 28 h_0 none none none) w fun t_2 w =>
  ef prog (oBi .append #[22, 22] 22 #[false, false] #[t_2, b_p1]) w fun t_3 w =>
  Calls prog 7 #[t_3] w (Ret fun t_4 w =>
  efu prog (Instr.storeAt 28 t_1 t_4) w fun u_5 w =>
  ∃ r_6, (do loadVar 28 (← asAddr t_1)).run prog w = .ok r_6 w ∧ K r_6 w)
theorem B51_eq (h_p0 b_p1 : Value) (w : World) (K : Value → World → Prop) : denFn prog Tryz.f51 T51 [h_p0, b_p1] w K = B51 h_p0 b_p1 w K := by kernel_rfl
theorem c51 {h_p0 b_p1 : Value} {w : World} {K : Value → World → Prop} (h : B51 h_p0 b_p1 w K) : Calls prog 51 #[h_p0, b_p1] w (Ret K) :=
  denFn_calls Tryz.func51 T51_ok (Eq.mpr (B51_eq h_p0 b_p1 w K) h)

-- 77 (*holdfast/cred.Book).Owners$1
def T77 : Ann := (.seq .none (.seq .none .none))
theorem T77_ok : chkFn prog Tryz.f77 T77 = true := by kernel_rfl
def B77 (x_p0 y_p1 : Value) (w : World) (K : Value → World → Prop) : Prop :=
  efv prog (Instr.box 54 x_p0) w fun x_0 w =>
  efv prog (Instr.box 54 y_p1) w fun y_1 w =>
  pvv prog (Instr.fieldAt 54 x_0 1) w fun t_2 w =>
  ldv prog (Instr.loadAt 9 t_2) w fun t_3 w =>
  pvv prog (Instr.fieldAt 54 y_1 1) w fun t_4 w =>
  ldv prog (Instr.loadAt 9 t_4) w fun t_5 w =>
  Calls prog 43 #[t_3, t_5] w (Ret fun t_6 w =>
  K t_6 w)
theorem B77_eq (x_p0 y_p1 : Value) (w : World) (K : Value → World → Prop) : denFn prog Tryz.f77 T77 [x_p0, y_p1] w K = B77 x_p0 y_p1 w K := by kernel_rfl
theorem c77 {x_p0 y_p1 : Value} {w : World} {K : Value → World → Prop} (h : B77 x_p0 y_p1 w K) : Calls prog 77 #[x_p0, y_p1] w (Ret K) :=
  denFn_calls Tryz.func77 T77_ok (Eq.mpr (B77_eq x_p0 y_p1 w K) h)

-- 6 holdfast/keys.New
def T6 : Ann := (.seq .none (.seq .none .none))
theorem T6_ok : chkFn prog Tryz.f6 T6 = true := by kernel_rfl
def B6 (root_p0 : Value) (w : World) (K : Value → World → Prop) : Prop :=
  efv prog (Instr.box 28 root_p0) w fun root_0 w =>
  ldv prog (Instr.loadAt 28 root_0) w fun t_1 w =>
  efv prog (Instr.makeMap 70 none) w fun t_2 w =>
  efv prog (Instr.makeMap 71 none) w fun t_3 w =>
  pvv prog (Instr.build 73 #[(0, t_1), (2, t_2), (3, t_3)]) w fun t_4 w =>
  efv prog (Instr.box 73 t_4) w fun t_5 w =>
  K t_5 w
theorem B6_eq (root_p0 : Value) (w : World) (K : Value → World → Prop) : denFn prog Tryz.f6 T6 [root_p0] w K = B6 root_p0 w K := by kernel_rfl
theorem c6 {root_p0 : Value} {w : World} {K : Value → World → Prop} (h : B6 root_p0 w K) : Calls prog 6 #[root_p0] w (Ret K) :=
  denFn_calls Tryz.func6 T6_ok (Eq.mpr (B6_eq root_p0 w K) h)

-- 101 holdfast/seal.blocks
def T101 : Ann := (.seq .none (.seq .none .none))
theorem T101_ok : chkFn prog Tryz.f101 T101 = true := by kernel_rfl
def B101 (key_p0 once_p1 : Value) (w : World) (K : Value → World → Prop) : Prop :=
  efv prog (Instr.box 28 key_p0) w fun key_0 w =>
  efv prog (Instr.box 79 once_p1) w fun once_1 w =>
  pvv prog (Instr.makeFunc (.func 126) #[] #[key_0, once_1]) w fun t_2 w =>
  K t_2 w
theorem B101_eq (key_p0 once_p1 : Value) (w : World) (K : Value → World → Prop) : denFn prog Tryz.f101 T101 [key_p0, once_p1] w K = B101 key_p0 once_p1 w K := by kernel_rfl
theorem c101 {key_p0 once_p1 : Value} {w : World} {K : Value → World → Prop} (h : B101 key_p0 once_p1 w K) : Calls prog 101 #[key_p0, once_p1] w (Ret K) :=
  denFn_calls Tryz.func101 T101_ok (Eq.mpr (B101_eq key_p0 once_p1 w K) h)

-- 150 internal/strconv.isPowerOfTwo
def T150 : Ann := (.seq .none (.seq .none .none))
theorem T150_ok : chkFn prog Tryz.f150 T150 = true := by kernel_rfl
def B150 (x_p0 : Value) (w : World) (K : Value → World → Prop) : Prop :=
  pvv prog (binOp .sub 3 x_p0 (.int .i64 1)) w fun t_0 w =>
  pvv prog (binOp .and 3 x_p0 t_0) w fun t_1 w =>
  pvv prog (oEq .eql 3 (.tmp 6) (.const (.int .i64 0)) t_1 (.int .i64 0)) w fun t_2 w =>
  K t_2 w
theorem B150_eq (x_p0 : Value) (w : World) (K : Value → World → Prop) : denFn prog Tryz.f150 T150 [x_p0] w K = B150 x_p0 w K := by kernel_rfl
theorem c150 {x_p0 : Value} {w : World} {K : Value → World → Prop} (h : B150 x_p0 w K) : Calls prog 150 #[x_p0] w (Ret K) :=
  denFn_calls Tryz.func150 T150_ok (Eq.mpr (B150_eq x_p0 w K) h)

-- 123 strings.ContainsRune
def T123 : Ann := (.seq .none (.seq .none .none))
theorem T123_ok : chkFn prog Tryz.f123 T123 = true := by kernel_rfl
def B123 (s_p0 r_p1 : Value) (w : World) (K : Value → World → Prop) : Prop :=
  Calls prog 153 #[s_p0, r_p1] w (Ret fun t_0 w =>
  pvv prog (binOp .geq 3 t_0 (.int .i64 0)) w fun t_1 w =>
  K t_1 w)
theorem B123_eq (s_p0 r_p1 : Value) (w : World) (K : Value → World → Prop) : denFn prog Tryz.f123 T123 [s_p0, r_p1] w K = B123 s_p0 r_p1 w K := by kernel_rfl
theorem c123 {s_p0 r_p1 : Value} {w : World} {K : Value → World → Prop} (h : B123 s_p0 r_p1 w K) : Calls prog 123 #[s_p0, r_p1] w (Ret K) :=
  denFn_calls Tryz.func123 T123_ok (Eq.mpr (B123_eq s_p0 r_p1 w K) h)

-- 40 holdfast/cred.number
def T40 : Ann := (.seq .none (.seq .none (.seq .none .none)))
theorem T40_ok : chkFn prog Tryz.f40 T40 = true := by kernel_rfl
def B40 (n_p0 : Value) (w : World) (K : Value → World → Prop) : Prop :=
  Calls prog 52 #[n_p0] w (Ret fun t_0 w =>
  pvv prog (Instr.extract t_0 0) w fun t_1 w =>
  pvv prog (Instr.extract t_0 1) w fun t_2 w =>
  K t_1 w)
theorem B40_eq (n_p0 : Value) (w : World) (K : Value → World → Prop) : denFn prog Tryz.f40 T40 [n_p0] w K = B40 n_p0 w K := by kernel_rfl
theorem c40 {n_p0 : Value} {w : World} {K : Value → World → Prop} (h : B40 n_p0 w K) : Calls prog 40 #[n_p0] w (Ret K) :=
  denFn_calls Tryz.func40 T40_ok (Eq.mpr (B40_eq n_p0 w K) h)

-- 176 internal/bytealg.Cutover
def T176 : Ann := (.seq .none (.seq .none .none))
theorem T176_ok : chkFn prog Tryz.f176 T176 = true := by kernel_rfl
def B176 (n_p0 : Value) (w : World) (K : Value → World → Prop) : Prop :=
  pvv prog (binOp .add 3 n_p0 (.int .i64 16)) w fun t_0 w =>
  pvv prog (binOp .quo 3 t_0 (.int .i64 8)) w fun t_1 w =>
  K t_1 w
theorem B176_eq (n_p0 : Value) (w : World) (K : Value → World → Prop) : denFn prog Tryz.f176 T176 [n_p0] w K = B176 n_p0 w K := by kernel_rfl
theorem c176 {n_p0 : Value} {w : World} {K : Value → World → Prop} (h : B176 n_p0 w K) : Calls prog 176 #[n_p0] w (Ret K) :=
  denFn_calls Tryz.func176 T176_ok (Eq.mpr (B176_eq n_p0 w K) h)

-- 79 maps.Keys[map[string]bool,string,bool]
def T79 : Ann := (.seq .none (.seq .none .none))
theorem T79_ok : chkFn prog Tryz.f79 T79 = true := by kernel_rfl
def B79 (m_p0 : Value) (w : World) (K : Value → World → Prop) : Prop :=
  efv prog (Instr.box 70 m_p0) w fun m_0 w =>
  pvv prog (Instr.makeFunc (.func 108) #[] #[m_0]) w fun t_1 w =>
  K t_1 w
theorem B79_eq (m_p0 : Value) (w : World) (K : Value → World → Prop) : denFn prog Tryz.f79 T79 [m_p0] w K = B79 m_p0 w K := by kernel_rfl
theorem c79 {m_p0 : Value} {w : World} {K : Value → World → Prop} (h : B79 m_p0 w K) : Calls prog 79 #[m_p0] w (Ret K) :=
  denFn_calls Tryz.func79 T79_ok (Eq.mpr (B79_eq m_p0 w K) h)

-- 180 strings.IndexByte
def T180 : Ann := (.seq .none (.seq .none .none))
theorem T180_ok : chkFn prog Tryz.f180 T180 = true := by kernel_rfl
def B180 (s_p0 c_p1 : Value) (w : World) (K : Value → World → Prop) : Prop :=
  Calls prog 174 #[s_p0, c_p1] w (Ret fun t_0 w =>
  K t_0 w)
theorem B180_eq (s_p0 c_p1 : Value) (w : World) (K : Value → World → Prop) : denFn prog Tryz.f180 T180 [s_p0, c_p1] w K = B180 s_p0 c_p1 w K := by kernel_rfl
theorem c180 {s_p0 c_p1 : Value} {w : World} {K : Value → World → Prop} (h : B180 s_p0 c_p1 w K) : Calls prog 180 #[s_p0, c_p1] w (Ret K) :=
  denFn_calls Tryz.func180 T180_ok (Eq.mpr (B180_eq s_p0 c_p1 w K) h)

-- 65 cmp.isNaN[string]
def T65 : Ann := (.seq .none (.seq .none .none))
theorem T65_ok : chkFn prog Tryz.f65 T65 = true := by kernel_rfl
def B65 (x_p0 : Value) (w : World) (K : Value → World → Prop) : Prop :=
  pvv prog (oEq .neq 9 (.tmp 3) (.tmp 4) x_p0 x_p0) w fun t_0 w =>
  K t_0 w
theorem B65_eq (x_p0 : Value) (w : World) (K : Value → World → Prop) : denFn prog Tryz.f65 T65 [x_p0] w K = B65 x_p0 w K := by kernel_rfl
theorem c65 {x_p0 : Value} {w : World} {K : Value → World → Prop} (h : B65 x_p0 w K) : Calls prog 65 #[x_p0] w (Ret K) :=
  denFn_calls Tryz.func65 T65_ok (Eq.mpr (B65_eq x_p0 w K) h)


end Go.Proofs.YtmnaalpjhkkglaaGreatDoor
