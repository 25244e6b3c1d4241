import Derived.Test.YtjeiojibnmfibaaDoorPI
set_option linter.all false
set_option maxRecDepth 100000
namespace Go.Proofs.YtjeiojibnmfibaaDoor
open Go Hold
-- 68 (holdfast/hash.words).mix
def T68 : Ann := (.seq .none (.seq .none (.seq (.seq .none (.block (.loop 324518553658426726783156020315904 [18] (.seq .none (.seq (.seq .none .none) (.meet 162259276829213363391578009241344 [] (.block (.seq .none (.seq (.seq .none (.seq (.seq (.draw [.op 0 .pure, .op 1 .pure, .op 2 .pure, .op 3 .pure, .op 4 .pure, .op 8 .pure, .op 9 .pure, .op 10 .pure, .op 11 .pure, .op 12 .pure, .op 17 .pure, .op 18 .pure, .op 19 .pure, .op 20 .pure, .op 21 .pure, .op 26 .pure, .op 27 .pure, .op 28 .pure, .op 29 .pure, .op 30 .pure, .op 5 .load, .op 6 .pure, .op 7 .pure, .op 13 .load, .op 14 .pure, .op 15 .pure, .op 16 .pure, .op 22 .load, .op 23 .pure, .op 24 .pure, .op 25 .pure, .op 31 .load, .op 32 .pure, .op 33 .pure, .op 34 .pure, .op 35 .eff]) .none) .none)) (.seq (.draw [.op 0 .pure, .op 1 .pure, .op 2 .pure, .op 5 .pure, .op 6 .pure, .op 7 .pure, .op 11 .pure, .op 12 .pure, .op 13 .pure, .op 3 .load, .op 8 .load, .op 14 .load, .op 15 .pure, .op 4 .eff, .op 9 .eff, .op 10 .pure, .op 16 .pure, .op 17 .pure]) (.seq (.draw [.op 0 .pure, .op 1 .pure, .op 2 .pure, .op 5 .pure, .op 6 .pure, .op 7 .pure, .op 11 .pure, .op 12 .pure, .op 13 .pure, .op 3 .load, .op 8 .load, .op 14 .load, .op 15 .pure, .op 4 .eff, .op 9 .eff, .op 10 .pure, .op 16 .pure, .op 17 .pure]) (.draw [.op 0 .pure, .op 1 .pure, .op 2 .pure, .op 3 .pure, .op 5 .pure, .op 7 .pure, .op 8 .pure, .op 9 .pure, .op 12 .pure, .op 4 .load, .op 6 .pure, .op 10 .load, .op 11 .pure, .op 13 .pure, .op 14 .pure, .op 15 .eff])))))) .none)))))) (.seq .none (.seq (.seq .none (.block (.loop 784637716923335095479473028863850985159340864245963288576 [109] (.seq .none (.seq (.seq .none .none) (.seq (.block (.seq .none (.seq (.draw [.op 0 .pure, .op 3 .pure, .op 7 .pure, .op 1 .load, .op 4 .load, .op 8 .load, .op 2 .eff, .op 5 .eff, .op 6 .pure, .op 9 .eff, .op 10 .pure, .op 11 .pure]) (.seq (.draw [.op 0 .pure, .op 2 .pure, .op 4 .pure, .op 6 .pure, .op 8 .pure, .op 10 .pure, .op 16 .pure, .op 17 .pure, .op 18 .pure, .op 19 .pure, .op 22 .pure, .op 23 .pure, .op 1 .load, .op 3 .pure, .op 5 .load, .op 7 .load, .op 9 .load, .op 11 .load, .op 12 .pure, .op 13 .pure, .op 14 .pure, .op 15 .pure, .op 20 .load, .op 21 .pure, .op 24 .load, .op 25 .pure, .op 26 .pure]) (.seq (.draw [.op 0 .pure, .op 3 .pure, .op 7 .pure, .op 1 .load, .op 4 .load, .op 8 .load, .op 2 .eff, .op 5 .eff, .op 6 .pure, .op 9 .eff, .op 10 .pure, .op 11 .pure]) (.seq .none (.seq (.draw [.op 0 .pure, .op 1 .pure, .op 2 .eff]) (.seq .none .none)))))))) .none)))))) (.seq (.seq .none (.block (.loop 3213091450801057215988444711004424246742393193135027666419712 [189] (.seq .none (.seq (.seq .none .none) (.seq (.block (.seq .none (.draw [.op 0 .pure, .op 1 .pure, .op 3 .pure, .op 4 .pure, .op 2 .load, .op 5 .load, .op 6 .pure, .op 7 .pure, .op 8 .eff]))) .none)))))) (.seq .none .none)))))))
theorem T68_ok : chkFn prog Tryd.f68 T68 = true := by kernel_rfl
def B68 (h_p0 k_p1 b_p2 : Value) (w : World) (K : Value → World → Prop) : Prop :=
  efv prog (Instr.box 107 h_p0) w fun h_0 w =>
  efv prog (Instr.alloc 107 true (.tuple #[])) w fun t_1 w =>
  efv prog (Instr.alloc 121 true (.tuple #[])) w fun w_2 w =>
  lp (fun σ w again_4 => pop σ fun t_3 σ => fin σ <|
    pvv prog (binOp .lss 3 t_3 (.int .i64 64)) w fun t_5 w =>
    cd t_5 (
      jn (fun σ w => fin σ <|
        pvv prog (binOp .add 3 t_3 (.int .i64 1)) w fun t_6 w =>
        again_4 [t_6] w) fun k_7 =>
      pvv prog (binOp .lss 3 t_3 (.int .i64 16)) w fun t_8 w =>
      cd t_8 (
        dr w fun w =>
        pvv prog (binOp .mul 3 (.int .i64 4) t_3) w fun t_9 w =>
        pvv prog (Instr.indexAt 72 b_p2 t_9) w fun t_10 w =>
        pvv prog (binOp .mul 3 (.int .i64 4) t_3) w fun t_11 w =>
        pvv prog (binOp .add 3 t_11 (.int .i64 1)) w fun t_12 w =>
        pvv prog (Instr.indexAt 72 b_p2 t_12) w fun t_13 w =>
        pvv prog (binOp .mul 3 (.int .i64 4) t_3) w fun t_14 w =>
        pvv prog (binOp .add 3 t_14 (.int .i64 2)) w fun t_15 w =>
        pvv prog (Instr.indexAt 72 b_p2 t_15) w fun t_16 w =>
        pvv prog (binOp .mul 3 (.int .i64 4) t_3) w fun t_17 w =>
        pvv prog (binOp .add 3 t_17 (.int .i64 3)) w fun t_18 w =>
        pvv prog (Instr.indexAt 72 b_p2 t_18) w fun t_19 w =>
        bindS (vN (Instr.loadAt 5 t_10)) fun m_21 => ldv prog (Instr.loadAt 5 t_10) w fun t_20 w =>
        pvv prog (convert 5 101 t_20) w fun t_22 w =>
        pvv prog (binOp .shl 101 t_22 (.int .u64 24)) w fun t_23 w =>
        bindS (vN (Instr.loadAt 5 t_13)) fun m_25 => ldv prog (Instr.loadAt 5 t_13) w fun t_24 w =>
        pvv prog (convert 5 101 t_24) w fun t_26 w =>
        pvv prog (binOp .shl 101 t_26 (.int .u64 16)) w fun t_27 w =>
        pvv prog (binOp .or 101 t_23 t_27) w fun t_28 w =>
        bindS (vN (Instr.loadAt 5 t_16)) fun m_30 => ldv prog (Instr.loadAt 5 t_16) w fun t_29 w =>
        pvv prog (convert 5 101 t_29) w fun t_31 w =>
        pvv prog (binOp .shl 101 t_31 (.int .u64 8)) w fun t_32 w =>
        pvv prog (binOp .or 101 t_28 t_32) w fun t_33 w =>
        bindS (vN (Instr.loadAt 5 t_19)) fun m_35 => ldv prog (Instr.loadAt 5 t_19) w fun t_34 w =>
        pvv prog (convert 5 101 t_34) w fun t_36 w =>
        pvv prog (binOp .or 101 t_33 t_36) w fun t_37 w =>
        pvv prog (Instr.indexAt 121 w_2 t_3) w fun t_38 w =>
        efu prog (Instr.storeAt 101 t_38 t_37) w fun u_39 w =>
        k_7 [] w) <|
      dr w fun w =>
      pvv prog (binOp .sub 3 t_3 (.int .i64 15)) w fun t_41 w =>
      pvv prog (Instr.indexAt 121 w_2 t_41) w fun t_42 w =>
      pvv prog (binOp .sub 3 t_3 (.int .i64 15)) w fun t_43 w =>
      pvv prog (Instr.indexAt 121 w_2 t_43) w fun t_44 w =>
      pvv prog (binOp .sub 3 t_3 (.int .i64 15)) w fun t_45 w =>
      pvv prog (Instr.indexAt 121 w_2 t_45) w fun t_46 w =>
      bindS (vN (Instr.loadAt 101 t_42)) fun m_48 => ldv prog (Instr.loadAt 101 t_42) w fun t_47 w =>
      bindS (vN (Instr.loadAt 101 t_44)) fun m_50 => ldv prog (Instr.loadAt 101 t_44) w fun t_49 w =>
      bindS (vN (Instr.loadAt 101 t_46)) fun m_52 => ldv prog (Instr.loadAt 101 t_46) w fun t_51 w =>
      pvv prog (binOp .shr 101 t_51 (.int .u64 3)) w fun t_53 w =>
      Calls prog 83 #[t_47, (.int .i64 (-7))] w (Ret fun t_54 w => stay prog none m_52 t_51 w <| stay prog none m_50 t_49 w <| 
      Calls prog 83 #[t_49, (.int .i64 (-18))] w (Ret fun t_55 w => stay prog none m_52 t_51 w <| stay prog none m_48 t_47 w <| 
      pvv prog (binOp .xor 101 t_54 t_55) w fun t_56 w =>
      pvv prog (binOp .xor 101 t_56 t_53) w fun t_57 w =>
      dr w fun w =>
      pvv prog (binOp .sub 3 t_3 (.int .i64 2)) w fun t_58 w =>
      pvv prog (Instr.indexAt 121 w_2 t_58) w fun t_59 w =>
      pvv prog (binOp .sub 3 t_3 (.int .i64 2)) w fun t_60 w =>
      pvv prog (Instr.indexAt 121 w_2 t_60) w fun t_61 w =>
      pvv prog (binOp .sub 3 t_3 (.int .i64 2)) w fun t_62 w =>
      pvv prog (Instr.indexAt 121 w_2 t_62) w fun t_63 w =>
      bindS (vN (Instr.loadAt 101 t_59)) fun m_65 => ldv prog (Instr.loadAt 101 t_59) w fun t_64 w =>
      bindS (vN (Instr.loadAt 101 t_61)) fun m_67 => ldv prog (Instr.loadAt 101 t_61) w fun t_66 w =>
      bindS (vN (Instr.loadAt 101 t_63)) fun m_69 => ldv prog (Instr.loadAt 101 t_63) w fun t_68 w =>
      pvv prog (binOp .shr 101 t_68 (.int .u64 10)) w fun t_70 w =>
      Calls prog 83 #[t_64, (.int .i64 (-17))] w (Ret fun t_71 w => stay prog none m_69 t_68 w <| stay prog none m_67 t_66 w <| 
      Calls prog 83 #[t_66, (.int .i64 (-19))] w (Ret fun t_72 w => stay prog none m_69 t_68 w <| stay prog none m_65 t_64 w <| 
      pvv prog (binOp .xor 101 t_71 t_72) w fun t_73 w =>
      pvv prog (binOp .xor 101 t_73 t_70) w fun t_74 w =>
      dr w fun w =>
      pvv prog (binOp .sub 3 t_3 (.int .i64 16)) w fun t_75 w =>
      pvv prog (Instr.indexAt 121 w_2 t_75) w fun t_76 w =>
      pvv prog (binOp .sub 3 t_3 (.int .i64 7)) w fun t_77 w =>
      pvv prog (Instr.indexAt 121 w_2 t_77) w fun t_78 w =>
      bindS (vN (Instr.loadAt 101 t_76)) fun m_80 => ldv prog (Instr.loadAt 101 t_76) w fun t_79 w =>
      pvv prog (binOp .add 101 t_79 t_57) w fun t_81 w =>
      bindS (vN (Instr.loadAt 101 t_78)) fun m_83 => ldv prog (Instr.loadAt 101 t_78) w fun t_82 w =>
      pvv prog (binOp .add 101 t_81 t_82) w fun t_84 w =>
      pvv prog (binOp .add 101 t_84 t_74) w fun t_85 w =>
      pvv prog (Instr.indexAt 121 w_2 t_3) w fun t_86 w =>
      efu prog (Instr.storeAt 101 t_86 t_85) w fun u_87 w =>
      k_7 [] w))))) <|
    ldv prog (Instr.loadAt 107 h_0) w fun t_93 w =>
    efv prog (Instr.alloc 107 true (.tuple #[])) w fun v_94 w =>
    efu prog (Instr.storeAt 107 v_94 t_93) w fun u_95 w =>
    lp (fun σ w again_97 => pop σ fun t_96 σ => fin σ <|
      pvv prog (binOp .lss 3 t_96 (.int .i64 64)) w fun t_98 w =>
      cd t_98 (
        dr w fun w =>
        pvv prog (Instr.indexAt 107 v_94 (.int .i64 4)) w fun t_99 w =>
        pvv prog (Instr.indexAt 107 v_94 (.int .i64 4)) w fun t_100 w =>
        pvv prog (Instr.indexAt 107 v_94 (.int .i64 4)) w fun t_101 w =>
        bindS (vN (Instr.loadAt 101 t_99)) fun m_103 => ldv prog (Instr.loadAt 101 t_99) w fun t_102 w =>
        bindS (vN (Instr.loadAt 101 t_100)) fun m_105 => ldv prog (Instr.loadAt 101 t_100) w fun t_104 w =>
        bindS (vN (Instr.loadAt 101 t_101)) fun m_107 => ldv prog (Instr.loadAt 101 t_101) w fun t_106 w =>
        Calls prog 83 #[t_102, (.int .i64 (-6))] w (Ret fun t_108 w => stay prog none m_107 t_106 w <| stay prog none m_105 t_104 w <| 
        Calls prog 83 #[t_104, (.int .i64 (-11))] w (Ret fun t_109 w => stay prog none m_107 t_106 w <| stay prog none m_103 t_102 w <| 
        pvv prog (binOp .xor 101 t_108 t_109) w fun t_110 w =>
        Calls prog 83 #[t_106, (.int .i64 (-25))] w (Ret fun t_111 w => stay prog none m_105 t_104 w <| stay prog none m_103 t_102 w <| 
        pvv prog (binOp .xor 101 t_110 t_111) w fun t_112 w =>
        dr w fun w =>
        pvv prog (Instr.indexAt 107 v_94 (.int .i64 7)) w fun t_113 w =>
        pvv prog (Instr.indexAt 107 v_94 (.int .i64 6)) w fun t_114 w =>
        pvv prog (Instr.indexAt 107 v_94 (.int .i64 4)) w fun t_115 w =>
        pvv prog (Instr.indexAt 107 v_94 (.int .i64 5)) w fun t_116 w =>
        pvv prog (Instr.indexAt 107 v_94 (.int .i64 6)) w fun t_117 w =>
        pv prog (oNil k_p1) w fun t_118 w =>
        pvv prog (Instr.indexAt 121 t_118 t_96) w fun t_119 w =>
        pvv prog (Instr.indexAt 121 w_2 t_96) w fun t_120 w =>
        bindS (vN (Instr.loadAt 101 t_113)) fun m_122 => ldv prog (Instr.loadAt 101 t_113) w fun t_121 w =>
        pvv prog (binOp .add 101 t_121 t_112) w fun t_123 w =>
        bindS (vN (Instr.loadAt 101 t_114)) fun m_125 => ldv prog (Instr.loadAt 101 t_114) w fun t_124 w =>
        bindS (vN (Instr.loadAt 101 t_115)) fun m_127 => ldv prog (Instr.loadAt 101 t_115) w fun t_126 w =>
        bindS (vN (Instr.loadAt 101 t_116)) fun m_129 => ldv prog (Instr.loadAt 101 t_116) w fun t_128 w =>
        bindS (vN (Instr.loadAt 101 t_117)) fun m_131 => ldv prog (Instr.loadAt 101 t_117) w fun t_130 w =>
        pvv prog (binOp .xor 101 t_128 t_130) w fun t_132 w =>
        pvv prog (binOp .and 101 t_126 t_132) w fun t_133 w =>
        pvv prog (binOp .xor 101 t_124 t_133) w fun t_134 w =>
        pvv prog (binOp .add 101 t_123 t_134) w fun t_135 w =>
        bindS (vN (Instr.loadAt 101 t_119)) fun m_137 => ldv prog (Instr.loadAt 101 t_119) w fun t_136 w =>
        pvv prog (binOp .add 101 t_135 t_136) w fun t_138 w =>
        bindS (vN (Instr.loadAt 101 t_120)) fun m_140 => ldv prog (Instr.loadAt 101 t_120) w fun t_139 w =>
        pvv prog (binOp .add 101 t_138 t_139) w fun t_141 w =>
        dr w fun w =>
        pvv prog (Instr.indexAt 107 v_94 (.int .i64 0)) w fun t_142 w =>
        pvv prog (Instr.indexAt 107 v_94 (.int .i64 0)) w fun t_143 w =>
        pvv prog (Instr.indexAt 107 v_94 (.int .i64 0)) w fun t_144 w =>
        bindS (vN (Instr.loadAt 101 t_142)) fun m_146 => ldv prog (Instr.loadAt 101 t_142) w fun t_145 w =>
        bindS (vN (Instr.loadAt 101 t_143)) fun m_148 => ldv prog (Instr.loadAt 101 t_143) w fun t_147 w =>
        bindS (vN (Instr.loadAt 101 t_144)) fun m_150 => ldv prog (Instr.loadAt 101 t_144) w fun t_149 w =>
        Calls prog 83 #[t_145, (.int .i64 (-2))] w (Ret fun t_151 w => stay prog none m_150 t_149 w <| stay prog none m_148 t_147 w <| 
        Calls prog 83 #[t_147, (.int .i64 (-13))] w (Ret fun t_152 w => stay prog none m_150 t_149 w <| stay prog none m_146 t_145 w <| 
        pvv prog (binOp .xor 101 t_151 t_152) w fun t_153 w =>
        Calls prog 83 #[t_149, (.int .i64 (-22))] w (Ret fun t_154 w => stay prog none m_148 t_147 w <| stay prog none m_146 t_145 w <| 
        pvv prog (binOp .xor 101 t_153 t_154) w fun t_155 w =>
        pvv prog (Instr.indexAt 107 v_94 (.int .i64 0)) w fun t_156 w =>
        ldv prog (Instr.loadAt 101 t_156) w fun t_157 w =>
        pvv prog (Instr.indexAt 107 v_94 (.int .i64 1)) w fun t_158 w =>
        ldv prog (Instr.loadAt 101 t_158) w fun t_159 w =>
        pvv prog (binOp .and 101 t_157 t_159) w fun t_160 w =>
        pvv prog (Instr.indexAt 107 v_94 (.int .i64 2)) w fun t_161 w =>
        ldv prog (Instr.loadAt 101 t_161) w fun t_162 w =>
        pvv prog (Instr.indexAt 107 v_94 (.int .i64 0)) w fun t_163 w =>
        ldv prog (Instr.loadAt 101 t_163) w fun t_164 w =>
        pvv prog (Instr.indexAt 107 v_94 (.int .i64 1)) w fun t_165 w =>
        ldv prog (Instr.loadAt 101 t_165) w fun t_166 w =>
        pvv prog (binOp .or 101 t_164 t_166) w fun t_167 w =>
        pvv prog (binOp .and 101 t_162 t_167) w fun t_168 w =>
        pvv prog (binOp .or 101 t_160 t_168) w fun t_169 w =>
        pvv prog (binOp .add 101 t_155 t_169) w fun t_170 w =>
        dr w fun w =>
        pvv prog (Instr.sliceAt 107 v_94 (some (.int .i64 1)) none none) w fun t_171 w =>
        pvv prog (Instr.sliceAt 107 v_94 none (some (.int .i64 7)) none) w fun t_172 w =>
        ef prog (oBi .copy #[102, 102] 3 #[false, false] #[t_171, t_172]) w fun t_173 w =>
        pvv prog (Instr.indexAt 107 v_94 (.int .i64 4)) w fun t_174 w =>
        ldv prog (Instr.loadAt 101 t_174) w fun t_175 w =>
        pvv prog (binOp .add 101 t_175 t_141) w fun t_176 w =>
        pvv prog (Instr.indexAt 107 v_94 (.int .i64 4)) w fun t_177 w =>
        efu prog (Instr.storeAt 101 t_177 t_176) w fun u_178 w =>
        pvv prog (binOp .add 101 t_141 t_170) w fun t_179 w =>
        pvv prog (Instr.indexAt 107 v_94 (.int .i64 0)) w fun t_180 w =>
        efu prog (Instr.storeAt 101 t_180 t_179) w fun u_181 w =>
        pvv prog (binOp .add 3 t_96 (.int .i64 1)) w fun t_182 w =>
        again_97 [t_182] w))))))) <|
      lp (fun σ w again_191 => pop σ fun t_190 σ => fin σ <|
        pvv prog (binOp .lss 3 t_190 (.int .i64 8)) w fun t_192 w =>
        cd t_192 (
          dr w fun w =>
          pvv prog (Instr.indexAt 107 h_0 t_190) w fun t_193 w =>
          pvv prog (Instr.indexAt 107 v_94 t_190) w fun t_194 w =>
          bindS (vN (Instr.loadAt 101 t_193)) fun m_196 => ldv prog (Instr.loadAt 101 t_193) w fun t_195 w =>
          bindS (vN (Instr.loadAt 101 t_194)) fun m_198 => ldv prog (Instr.loadAt 101 t_194) w fun t_197 w =>
          pvv prog (binOp .add 101 t_195 t_197) w fun t_199 w =>
          pvv prog (Instr.indexAt 107 h_0 t_190) w fun t_200 w =>
          efu prog (Instr.storeAt 101 t_200 t_199) w fun u_201 w =>
          pvv prog (binOp .add 3 t_190 (.int .i64 1)) w fun t_202 w =>
          again_191 [t_202] w) <|
        ldv prog (Instr.loadAt 107 h_0) w fun t_204 w =>
        efu prog (Instr.storeAt 107 t_1 t_204) w fun u_205 w =>
        ∃ r_206, (do loadVar 107 (← asAddr t_1)).run prog w = .ok r_206 w ∧ K r_206 w) [(.int .i64 0)] w) [(.int .i64 0)] w) [(.int .i64 0)] w
theorem B68_eq (h_p0 k_p1 b_p2 : Value) (w : World) (K : Value → World → Prop) : denFn prog Tryd.f68 T68 [h_p0, k_p1, b_p2] w K = B68 h_p0 k_p1 b_p2 w K := by kernel_rfl
theorem c68 {h_p0 k_p1 b_p2 : Value} {w : World} {K : Value → World → Prop} (h : B68 h_p0 k_p1 b_p2 w K) : Calls prog 68 #[h_p0, k_p1, b_p2] w (Ret K) :=
  denFn_calls Tryd.func68 T68_ok (Eq.mpr (B68_eq h_p0 k_p1 b_p2 w K) h)

-- 81 internal/strconv.ParseUint
def T81 : Ann := (.seq .none (.seq (.seq .none (.seq (.seq .none .none) .none)) (.seq .none (.seq .none (.meet 75557863725914306642115 [0, 1] (.block (.seq .none (.seq .none (.seq .none (.seq (.seq .none (.seq .none (.seq (.block (.seq .none (.seq (.seq .none .none) (.seq .none (.seq (.seq .none .none) (.seq .none (.seq (.seq .none .none) (.seq .none .none)))))))) .none))) (.seq .none .none)))))) (.meet 38610068363942219267178692 [2] (.seq .none (.seq .none (.seq .none (.seq (.seq .none .none) .none)))) (.seq .none (.meet 19768355002338416264795390976 [10] (.seq .none (.block (.seq .none (.seq .none (.seq .none (.seq .none .none)))))) (.seq .none (.seq .none (.seq .none (.seq (.seq .none (.block (.loop 23384026197294446688723656123004069511501514518720 [12, 13, 101] (.seq .none (.seq (.seq .none .none) (.meet 11692013098647223335488273859904428945273834942656 [12, 13] (.block (.seq .none (.seq .none (.meet 21778071442375242454352634027738663030976 [12, 16] (.block (.seq .none (.seq (.seq .none .none) (.seq .none (.seq .none (.seq .none (.seq .none (.seq .none .none)))))))) (.seq (.seq .none (.seq (.seq .none .none) .none)) (.seq (.seq .none (.seq (.seq .none .none) .none)) (.seq .none (.seq .none (.seq (.seq .none (.seq (.seq .none .none) .none)) .none))))))))) .none)))))) (.seq (.seq .none (.seq (.seq .none .none) .none)) (.seq .none .none))))))))))))))
theorem T81_ok : chkFn prog Tryd.f81 T81 = true := by kernel_rfl
def B81 (s_p0 base_p1 bitSize_p2 : Value) (w : World) (K : Value → World → Prop) : Prop :=
  pvv prog (oEq .eql 9 (.tmp 18) (.const (.string ⟨#[]⟩)) s_p0 (.string ⟨#[]⟩)) w fun t_0 w =>
  cd t_0 (
    pvv prog (Instr.makeInterface 131 (.int .i64 2)) w fun t_1 w =>
    K (.tuple #[(.int .u64 0), t_1]) w) <|
  pvv prog (oEq .eql 3 (.tmp 21) (.const (.int .i64 0)) base_p1 (.int .i64 0)) w fun t_2 w =>
  jn (fun σ w => pop σ fun s_3 σ => pop σ fun base_4 σ => fin σ <|
    jn (fun σ w => pop σ fun bitSize_5 σ => fin σ <|
      jn (fun σ w => pop σ fun cutoff_6 σ => fin σ <|
        pvv prog (convert 3 104 bitSize_5) w fun t_7 w =>
        pvv prog (binOp .shl 96 (.int .u64 1) t_7) w fun t_8 w =>
        pvv prog (binOp .sub 96 t_8 (.int .u64 1)) w fun t_9 w =>
        efv prog (convert 9 72 s_3) w fun t_10 w =>
        pv prog (oBi .len #[72] 3 #[false] #[t_10]) w fun t_11 w =>
        lp (fun σ w again_15 => pop σ fun underscores_12 σ => pop σ fun n_13 σ => pop σ fun t_14 σ => fin σ <|
          pvv prog (binOp .lss 3 t_14 t_11) w fun t_16 w =>
          cd t_16 (
            jn (fun σ w => pop σ fun underscores_17 σ => pop σ fun n_18 σ => fin σ <|
              pvv prog (binOp .add 3 t_14 (.int .i64 1)) w fun t_19 w =>
              again_15 [underscores_17, n_18, t_19] w) fun k_20 =>
            pvv prog (Instr.indexAt 72 t_10 t_14) w fun t_21 w =>
            ldv prog (Instr.loadAt 5 t_21) w fun t_22 w =>
            jn (fun σ w => pop σ fun underscores_23 σ => pop σ fun d_24 σ => fin σ <|
              pvv prog (convert 3 5 base_4) w fun t_25 w =>
              pvv prog (binOp .geq 5 d_24 t_25) w fun t_26 w =>
              cd t_26 (
                pvv prog (Instr.makeInterface 131 (.int .i64 2)) w fun t_27 w =>
                K (.tuple #[(.int .u64 0), t_27]) w) <|
              pvv prog (binOp .geq 96 n_13 cutoff_6) w fun t_28 w =>
              cd t_28 (
                pvv prog (Instr.makeInterface 131 (.int .i64 1)) w fun t_29 w =>
                K (.tuple #[t_9, t_29]) w) <|
              pvv prog (convert 3 96 base_4) w fun t_30 w =>
              pvv prog (binOp .mul 96 n_13 t_30) w fun t_31 w =>
              pvv prog (convert 5 96 d_24) w fun t_32 w =>
              pvv prog (binOp .add 96 t_31 t_32) w fun t_33 w =>
              pvv prog (binOp .lss 96 t_33 t_31) w fun t_34 w =>
              gate (some (t_34, false)) (fun K => K t_33 w) w fun t_35 w =>
              gate (some (t_34, false)) (fun K => K t_9 w) w fun t_36 w =>
              gate (some (t_34, false)) (fun K => pvv prog (binOp .gtr 96 t_35 t_36) w K) w fun t_37 w =>
              pv prog (oPick t_34 (.bool true) t_37) w fun t_38 w =>
              cd t_38 (
                pvv prog (Instr.makeInterface 131 (.int .i64 1)) w fun t_39 w =>
                K (.tuple #[t_9, t_39]) w) <|
              k_20 [underscores_23, t_33] w) fun k_40 =>
            pvv prog (oEq .eql 5 (.tmp 107) (.const (.int .u8 95)) t_22 (.int .u8 95)) w fun t_41 w =>
            gate (some (t_41, true)) (fun K => K t_2 w) w fun t_42 w =>
            pv prog (oPick t_41 t_42 (.bool false)) w fun t_43 w =>
            cd t_43 (
              k_20 [(.bool true), n_13] w) <|
            pvv prog (binOp .leq 5 (.int .u8 48) t_22) w fun t_44 w =>
            gate (some (t_44, true)) (fun K => K t_22 w) w fun t_45 w =>
            gate (some (t_44, true)) (fun K => pvv prog (binOp .leq 5 t_45 (.int .u8 57)) w K) w fun t_46 w =>
            pv prog (oPick t_44 t_46 (.bool false)) w fun t_47 w =>
            cd t_47 (
              pvv prog (binOp .sub 5 t_22 (.int .u8 48)) w fun t_48 w =>
              k_40 [underscores_12, t_48] w) <|
            Calls prog 92 #[t_22] w (Ret fun t_49 w =>
            pvv prog (binOp .leq 5 (.int .u8 97) t_49) w fun t_50 w =>
            gate (some (t_50, true)) (fun K => K t_22 w) w fun t_51 w =>
            gate (some (t_50, true)) (fun K => Calls prog 92 #[t_51] w (Ret K)) w fun t_52 w =>
            gate (some (t_50, true)) (fun K => pvv prog (binOp .leq 5 t_52 (.int .u8 122)) w K) w fun t_53 w =>
            pv prog (oPick t_50 t_53 (.bool false)) w fun t_54 w =>
            cd t_54 (
              Calls prog 92 #[t_22] w (Ret fun t_55 w =>
              pvv prog (binOp .sub 5 t_55 (.int .u8 97)) w fun t_56 w =>
              pvv prog (binOp .add 5 t_56 (.int .u8 10)) w fun t_57 w =>
              k_40 [underscores_12, t_57] w)) <|
            pvv prog (Instr.makeInterface 131 (.int .i64 2)) w fun t_58 w =>
            K (.tuple #[(.int .u64 0), t_58]) w)) <|
          gate (some (underscores_12, true)) (fun K => K s_p0 w) w fun t_59 w =>
          gate (some (underscores_12, true)) (fun K => Calls prog 93 #[t_59] w (Ret K)) w fun t_60 w =>
          gate (some (underscores_12, true)) (fun K => pvv prog (Op.unary .not t_60) w K) w fun t_61 w =>
          pv prog (oPick underscores_12 t_61 (.bool false)) w fun t_62 w =>
          cd t_62 (
            pvv prog (Instr.makeInterface 131 (.int .i64 2)) w fun t_63 w =>
            K (.tuple #[(.int .u64 0), t_63]) w) <|
          K (.tuple #[n_13, .nilIface]) w) [(.bool false), (.int .u64 0), (.int .i64 0)] w) fun k_64 =>
      pvv prog (oEq .eql 3 (.tmp 85) (.const (.int .i64 10)) base_4 (.int .i64 10)) w fun t_65 w =>
      cd t_65 (
        k_64 [(.int .u64 1844674407370955162)] w) <|
      pvv prog (oEq .eql 3 (.tmp 85) (.const (.int .i64 16)) base_4 (.int .i64 16)) w fun t_66 w =>
      cd t_66 (
        k_64 [(.int .u64 1152921504606846976)] w) <|
      pvv prog (convert 3 96 base_4) w fun t_67 w =>
      pvv prog (binOp .quo 96 (.int .u64 18446744073709551615) t_67) w fun t_68 w =>
      pvv prog (binOp .add 96 t_68 (.int .u64 1)) w fun t_69 w =>
      k_64 [t_69] w) fun k_70 =>
    pvv prog (oEq .eql 3 (.tmp 76) (.const (.int .i64 0)) bitSize_p2 (.int .i64 0)) w fun t_71 w =>
    cd t_71 (
      k_70 [(.int .i64 64)] w) <|
    pvv prog (binOp .lss 3 bitSize_p2 (.int .i64 0)) w fun t_72 w =>
    gate (some (t_72, false)) (fun K => K bitSize_p2 w) w fun t_73 w =>
    gate (some (t_72, false)) (fun K => pvv prog (binOp .gtr 3 t_73 (.int .i64 64)) w K) w fun t_74 w =>
    pv prog (oPick t_72 (.bool true) t_74) w fun t_75 w =>
    cd t_75 (
      pvv prog (Instr.makeInterface 131 (.int .i64 4)) w fun t_76 w =>
      K (.tuple #[(.int .u64 0), t_76]) w) <|
    k_70 [bitSize_p2] w) fun k_77 =>
  pvv prog (binOp .leq 3 (.int .i64 2) base_p1) w fun t_78 w =>
  gate (some (t_78, true)) (fun K => K base_p1 w) w fun t_79 w =>
  gate (some (t_78, true)) (fun K => pvv prog (binOp .leq 3 t_79 (.int .i64 36)) w K) w fun t_80 w =>
  pv prog (oPick t_78 t_80 (.bool false)) w fun t_81 w =>
  cd t_81 (
    k_77 [s_p0, base_p1] w) <|
  pvv prog (oEq .eql 3 (.tmp 33) (.const (.int .i64 0)) base_p1 (.int .i64 0)) w fun t_82 w =>
  cd t_82 (
    pvv prog (Instr.index 9 s_p0 (.int .i64 0)) w fun t_83 w =>
    pvv prog (oEq .eql 5 (.tmp 36) (.const (.int .u8 48)) t_83 (.int .u8 48)) w fun t_84 w =>
    cd t_84 (
      pv prog (oBi .len #[9] 3 #[false] #[s_p0]) w fun t_85 w =>
      pvv prog (binOp .geq 3 t_85 (.int .i64 3)) w fun t_86 w =>
      gate (some (t_86, true)) (fun K => K s_p0 w) w fun t_87 w =>
      gate (some (t_86, true)) (fun K => pvv prog (Instr.index 9 t_87 (.int .i64 1)) w K) w fun t_88 w =>
      gate (some (t_86, true)) (fun K => Calls prog 92 #[t_88] w (Ret K)) w fun t_89 w =>
      gate (some (t_86, true)) (fun K => pvv prog (oEq .eql 5 (.tmp 47) (.const (.int .u8 98)) t_89 (.int .u8 98)) w K) w fun t_90 w =>
      pv prog (oPick t_86 t_90 (.bool false)) w fun t_91 w =>
      cd t_91 (
        pvv prog (Instr.sliceAt 9 s_p0 (some (.int .i64 2)) none none) w fun t_92 w =>
        k_77 [t_92, (.int .i64 2)] w) <|
      pv prog (oBi .len #[9] 3 #[false] #[s_p0]) w fun t_93 w =>
      pvv prog (binOp .geq 3 t_93 (.int .i64 3)) w fun t_94 w =>
      gate (some (t_94, true)) (fun K => K s_p0 w) w fun t_95 w =>
      gate (some (t_94, true)) (fun K => pvv prog (Instr.index 9 t_95 (.int .i64 1)) w K) w fun t_96 w =>
      gate (some (t_94, true)) (fun K => Calls prog 92 #[t_96] w (Ret K)) w fun t_97 w =>
      gate (some (t_94, true)) (fun K => pvv prog (oEq .eql 5 (.tmp 59) (.const (.int .u8 111)) t_97 (.int .u8 111)) w K) w fun t_98 w =>
      pv prog (oPick t_94 t_98 (.bool false)) w fun t_99 w =>
      cd t_99 (
        pvv prog (Instr.sliceAt 9 s_p0 (some (.int .i64 2)) none none) w fun t_100 w =>
        k_77 [t_100, (.int .i64 8)] w) <|
      pv prog (oBi .len #[9] 3 #[false] #[s_p0]) w fun t_101 w =>
      pvv prog (binOp .geq 3 t_101 (.int .i64 3)) w fun t_102 w =>
      gate (some (t_102, true)) (fun K => K s_p0 w) w fun t_103 w =>
      gate (some (t_102, true)) (fun K => pvv prog (Instr.index 9 t_103 (.int .i64 1)) w K) w fun t_104 w =>
      gate (some (t_102, true)) (fun K => Calls prog 92 #[t_104] w (Ret K)) w fun t_105 w =>
      gate (some (t_102, true)) (fun K => pvv prog (oEq .eql 5 (.tmp 71) (.const (.int .u8 120)) t_105 (.int .u8 120)) w K) w fun t_106 w =>
      pv prog (oPick t_102 t_106 (.bool false)) w fun t_107 w =>
      cd t_107 (
        pvv prog (Instr.sliceAt 9 s_p0 (some (.int .i64 2)) none none) w fun t_108 w =>
        k_77 [t_108, (.int .i64 16)] w) <|
      pvv prog (Instr.sliceAt 9 s_p0 (some (.int .i64 1)) none none) w fun t_109 w =>
      k_77 [t_109, (.int .i64 8)] w) <|
    k_77 [s_p0, (.int .i64 10)] w) <|
  pvv prog (Instr.makeInterface 131 (.int .i64 3)) w fun t_110 w =>
  K (.tuple #[(.int .u64 0), t_110]) w
theorem B81_eq (s_p0 base_p1 bitSize_p2 : Value) (w : World) (K : Value → World → Prop) : denFn prog Tryd.f81 T81 [s_p0, base_p1, bitSize_p2] w K = B81 s_p0 base_p1 bitSize_p2 w K := by kernel_rfl
theorem c81 {s_p0 base_p1 bitSize_p2 : Value} {w : World} {K : Value → World → Prop} (h : B81 s_p0 base_p1 bitSize_p2 w K) : Calls prog 81 #[s_p0, base_p1, bitSize_p2] w (Ret K) :=
  denFn_calls Tryd.func81 T81_ok (Eq.mpr (B81_eq s_p0 base_p1 bitSize_p2 w K) h)

-- 3 holdfast/holdfastlaw14.AuditOrder
def T3 : Ann := (.seq .none (.seq .none (.seq (.seq .none (.seq (.seq .none .none) .none)) (.seq (.seq .none (.block (.loop 2147467296 [5] (.seq (.seq .none (.seq .none .none)) (.seq (.block .none) .none))))) (.seq .none (.seq (.seq .none (.block (.loop 1180591620708821368964 [7] (.seq (.seq .none (.seq .none .none)) (.seq (.block (.seq (.draw [.op 0 .pure, .op 1 .pure, .op 2 .pure, .op 3 .pure, .op 4 .pure, .op 5 .pure, .op 6 .pure, .op 8 .pure, .op 9 .pure, .op 10 .pure, .op 11 .pure, .op 12 .pure, .op 7 .load, .op 13 .load, .op 14 .pure, .op 15 .pure, .op 16 .pure, .op 17 .pure, .op 18 .pure, .op 19 .pure, .op 20 .pure, .op 22 .pure, .op 23 .pure, .op 24 .pure, .op 25 .pure, .op 26 .pure, .op 21 .load, .op 27 .load, .op 28 .pure, .op 29 .pure, .op 30 .pure]) (.seq (.seq .none .none) .none))) .none))))) (.seq .none (.seq (.draw [.op 0 .pure, .op 1 .pure, .op 2 .pure, .op 3 .pure, .op 4 .pure, .op 5 .pure, .op 6 .pure, .op 7 .pure, .op 8 .pure, .op 9 .pure, .op 10 .pure, .op 11 .pure, .op 12 .pure, .op 13 .pure, .op 15 .pure, .op 14 .load, .op 16 .eff, .op 17 .pure, .op 18 .pure, .op 19 .pure, .op 20 .pure, .op 21 .pure, .op 22 .pure, .op 23 .eff, .op 24 .pure, .op 25 .pure, .op 26 .pure]) .none))))))))
theorem T3_ok : chkFn prog Tryd.f3 T3 = true := by kernel_rfl
def B3 (l_p0 : Value) (w : World) (K : Value → World → Prop) : Prop :=
  Calls prog 9 #[] w (Ret fun t_0 w =>
  Calls prog 10 #[] w (Ret fun t_1 w =>
  Calls prog 11 #[] w (Ret fun t_2 w =>
  pvv prog (Op.unary .not t_2) w fun t_3 w =>
  cd t_3 (
    K (.bool false) w) <|
  lp (fun σ w again_5 => pop σ fun i_4 σ => fin σ <|
    pv prog (oBi .len #[22] 3 #[false] #[l_p0]) w fun t_6 w =>
    pvv prog (binOp .lss 3 i_4 t_6) w fun t_7 w =>
    gate (some (t_7, true)) (fun K => K i_4 w) w fun t_8 w =>
    gate (some (t_7, true)) (fun K => pvv prog (binOp .lss 3 t_8 (.int .i64 100)) w K) w fun t_9 w =>
    pv prog (oPick t_7 t_9 (.bool false)) w fun t_10 w =>
    cd t_10 (
      pvv prog (Instr.indexAt 22 l_p0 i_4) w fun t_11 w =>
      ldv prog (Instr.loadAt 30 t_11) w fun t_12 w =>
      Calls prog 12 #[t_0, t_1, t_12] w (Ret fun t_13 w =>
      pvv prog (binOp .add 3 i_4 (.int .i64 1)) w fun t_14 w =>
      again_5 [t_14] w)) <|
    Calls prog 13 #[t_0] w (Ret fun t_15 w =>
    lp (fun σ w again_17 => pop σ fun i_16 σ => fin σ <|
      pv prog (oBi .len #[31] 3 #[false] #[t_15]) w fun t_18 w =>
      pvv prog (binOp .lss 3 i_16 t_18) w fun t_19 w =>
      cd t_19 (
        dr w fun w =>
        pvv prog (binOp .gtr 3 i_16 (.int .i64 0)) w fun t_20 w =>
        gate (some (t_20, true)) (fun K => K t_15 w) w fun t_21 w =>
        gate (some (t_20, true)) (fun K => K i_16 w) w fun t_22 w =>
        gate (some (t_20, true)) (fun K => pvv prog (Instr.indexAt 31 t_21 t_22) w K) w fun t_23 w =>
        gate (some (t_20, true)) (fun K => pvv prog (Instr.fieldAt 34 t_23 0) w K) w fun t_24 w =>
        gate (some (t_20, true)) (fun K => K t_15 w) w fun t_25 w =>
        gate (some (t_20, true)) (fun K => K i_16 w) w fun t_26 w =>
        gate (some (t_20, true)) (fun K => pvv prog (binOp .sub 3 t_26 (.int .i64 1)) w K) w fun t_27 w =>
        gate (some (t_20, true)) (fun K => pvv prog (Instr.indexAt 31 t_25 t_27) w K) w fun t_28 w =>
        gate (some (t_20, true)) (fun K => pvv prog (Instr.fieldAt 34 t_28 0) w K) w fun t_29 w =>
        bindS (vN (Instr.loadAt 3 t_24)) fun m_31 => gate (some (t_20, true)) (fun K => ldv prog (Instr.loadAt 3 t_24) w K) w fun t_30 w =>
        bindS (vN (Instr.loadAt 3 t_29)) fun m_33 => gate (some (t_20, true)) (fun K => ldv prog (Instr.loadAt 3 t_29) w K) w fun t_32 w =>
        gate (some (t_20, true)) (fun K => pvv prog (binOp .add 3 t_32 (.int .i64 1)) w K) w fun t_34 w =>
        gate (some (t_20, true)) (fun K => pvv prog (oEq .neq 3 (.tmp 46) (.tmp 53) t_30 t_34) w K) w fun t_35 w =>
        gate (some (t_20, true)) (fun K => K t_35 w) w fun t_36 w =>
        gate (some (t_36, false)) (fun K => K t_15 w) w fun t_37 w =>
        gate (some (t_36, false)) (fun K => K i_16 w) w fun t_38 w =>
        gate (some (t_36, false)) (fun K => pvv prog (Instr.indexAt 31 t_37 t_38) w K) w fun t_39 w =>
        gate (some (t_36, false)) (fun K => pvv prog (Instr.fieldAt 34 t_39 1) w K) w fun t_40 w =>
        gate (some (t_36, false)) (fun K => K t_15 w) w fun t_41 w =>
        gate (some (t_36, false)) (fun K => K i_16 w) w fun t_42 w =>
        gate (some (t_36, false)) (fun K => pvv prog (binOp .sub 3 t_42 (.int .i64 1)) w K) w fun t_43 w =>
        gate (some (t_36, false)) (fun K => pvv prog (Instr.indexAt 31 t_41 t_43) w K) w fun t_44 w =>
        gate (some (t_36, false)) (fun K => pvv prog (Instr.fieldAt 34 t_44 1) w K) w fun t_45 w =>
        bindS (vN (Instr.loadAt 3 t_40)) fun m_47 => gate (some (t_36, false)) (fun K => ldv prog (Instr.loadAt 3 t_40) w K) w fun t_46 w =>
        bindS (vN (Instr.loadAt 3 t_45)) fun m_49 => gate (some (t_36, false)) (fun K => ldv prog (Instr.loadAt 3 t_45) w K) w fun t_48 w =>
        gate (some (t_36, false)) (fun K => pvv prog (binOp .lss 3 t_46 t_48) w K) w fun t_50 w =>
        gate (some (t_20, true)) (fun K => pv prog (oPick t_36 (.bool true) t_50) w K) w fun t_51 w =>
        pv prog (oPick t_20 t_51 (.bool false)) w fun t_52 w =>
        cd t_52 (
          K (.bool false) w) <|
        pvv prog (binOp .add 3 i_16 (.int .i64 1)) w fun t_53 w =>
        again_17 [t_53] w) <|
      Calls prog 14 #[t_0] w (Ret fun t_54 w =>
      pvv prog (Instr.extract t_54 0) w fun t_55 w =>
      pvv prog (Instr.extract t_54 1) w fun t_56 w =>
      efv prog (Instr.alloc 36 true (.tuple #[])) w fun t_57 w =>
      efu prog (Instr.storeAt 36 t_57 t_56) w fun u_58 w =>
      dr w fun w =>
      pv prog (oBi .len #[31] 3 #[false] #[t_15]) w fun t_59 w =>
      pvv prog (binOp .leq 3 t_59 (.int .i64 64)) w fun t_60 w =>
      gate (some (t_60, true)) (fun K => K t_15 w) w fun t_61 w =>
      gate (some (t_60, true)) (fun K => pv prog (oBi .len #[31] 3 #[false] #[t_61]) w K) w fun t_62 w =>
      gate (some (t_60, true)) (fun K => pvv prog (oEq .eql 3 (.tmp 80) (.const (.int .i64 0)) t_62 (.int .i64 0)) w K) w fun t_63 w =>
      gate (some (t_60, true)) (fun K => K t_63 w) w fun t_64 w =>
      gate (some (t_64, false)) (fun K => K t_15 w) w fun t_65 w =>
      gate (some (t_64, false)) (fun K => K t_15 w) w fun t_66 w =>
      gate (some (t_64, false)) (fun K => pv prog (oBi .len #[31] 3 #[false] #[t_66]) w K) w fun t_67 w =>
      gate (some (t_64, false)) (fun K => pvv prog (binOp .sub 3 t_67 (.int .i64 1)) w K) w fun t_68 w =>
      gate (some (t_64, false)) (fun K => pvv prog (Instr.indexAt 31 t_65 t_68) w K) w fun t_69 w =>
      gate (some (t_64, false)) (fun K => pvv prog (Instr.fieldAt 34 t_69 0) w K) w fun t_70 w =>
      gate (some (t_64, false)) (fun K => K t_0 w) w fun t_71 w =>
      bindS (vN (Instr.loadAt 3 t_70)) fun m_73 => gate (some (t_64, false)) (fun K => ldv prog (Instr.loadAt 3 t_70) w K) w fun t_72 w =>
      gate (some (t_64, false)) (fun K => Calls prog 15 #[t_71] w (Ret fun s_84 w => stay prog (some (t_64, false)) m_73 t_72 w <| K s_84 w)) w fun t_74 w =>
      gate (some (t_64, false)) (fun K => pvv prog (oEq .eql 3 (.tmp 89) (.tmp 91) t_72 t_74) w K) w fun t_75 w =>
      gate (some (t_60, true)) (fun K => pv prog (oPick t_64 (.bool true) t_75) w K) w fun t_76 w =>
      pv prog (oPick t_60 t_76 (.bool false)) w fun t_77 w =>
      gate (some (t_77, true)) (fun K => K t_55 w) w fun t_78 w =>
      gate (some (t_77, true)) (fun K => K t_0 w) w fun t_79 w =>
      gate (some (t_77, true)) (fun K => Calls prog 15 #[t_79] w (Ret fun s_83 w => stay prog (some (t_64, false)) m_73 t_72 w <| K s_83 w)) w fun t_80 w =>
      gate (some (t_77, true)) (fun K => pvv prog (binOp .leq 3 t_78 t_80) w K) w fun t_81 w =>
      pv prog (oPick t_77 t_81 (.bool false)) w fun t_82 w =>
      K t_82 w)) [(.int .i64 0)] w)) [(.int .i64 0)] w)))
theorem B3_eq (l_p0 : Value) (w : World) (K : Value → World → Prop) : denFn prog Tryd.f3 T3 [l_p0] w K = B3 l_p0 w K := by kernel_rfl
theorem c3 {l_p0 : Value} {w : World} {K : Value → World → Prop} (h : B3 l_p0 w K) : Calls prog 3 #[l_p0] w (Ret K) :=
  denFn_calls Tryd.func3 T3_ok (Eq.mpr (B3_eq l_p0 w K) h)

-- 18 (*holdfast/audit.Chain).Prune
def T18 : Ann := (.seq .none (.seq (.block (.seq .none (.seq (.seq .none .none) (.seq (.draw [.op 0 .load, .op 1 .load, .op 2 .pure, .op 3 .pure, .op 4 .pure, .op 5 .load, .op 6 .pure, .op 7 .pure, .op 8 .load, .op 9 .load, .op 10 .pure, .op 11 .pure, .op 12 .pure, .op 13 .load, .op 14 .pure, .op 15 .pure, .op 16 .pure]) (.seq (.seq .none .none) .none))))) (.seq (.draw [.op 0 .load, .op 1 .load, .op 2 .pure, .op 3 .pure, .op 4 .pure, .op 5 .load, .op 6 .pure, .op 7 .pure]) (.seq (.seq .none (.block (.range .none (.block (.seq .none (.seq (.seq .none .none) .none)))))) (.seq (.draw [.op 5 .pure, .op 0 .load, .op 1 .load, .op 2 .pure, .op 3 .pure, .op 4 .load, .op 6 .pure, .op 7 .eff, .op 8 .pure, .op 9 .pure, .op 10 .eff]) (.seq .none .none))))))
theorem T18_ok : chkFn prog Tryd.f18 T18 = true := by kernel_rfl
def B18 (c_p0 n_p1 : Value) (w : World) (K : Value → World → Prop) : Prop :=
  efv prog (Instr.box 23 c_p0) w fun c_0 w =>
  efv prog (Instr.box 3 n_p1) w fun n_1 w =>
  ldv prog (Instr.loadAt 23 c_0) w fun t_2 w =>
  pvv prog (oEq .eql 23 (.tmp 9) (.const (.pointer none)) t_2 (.pointer none)) w fun t_3 w =>
  cd t_3 (
    K (.tuple #[(.int .i64 0), (.int .i64 1)]) w) <|
  dr w fun w =>
  bindS (vN (Instr.loadAt 3 n_1)) fun m_5 => ldv prog (Instr.loadAt 3 n_1) w fun t_4 w =>
  bindS (vN (Instr.loadAt 23 c_0)) fun m_7 => ldv prog (Instr.loadAt 23 c_0) w fun t_6 w =>
  pv prog (oNil t_6) w fun t_8 w =>
  pvv prog (Instr.fieldAt 59 t_8 1) w fun t_9 w =>
  pvv prog (Instr.fieldAt 57 t_9 0) w fun t_10 w =>
  bindS (vN (Instr.loadAt 3 t_10)) fun m_12 => ldv prog (Instr.loadAt 3 t_10) w fun t_11 w =>
  pvv prog (binOp .gtr 3 t_4 t_11) w fun t_13 w =>
  bindS (vN (Instr.loadAt 3 n_1)) fun m_15 => gate (some (t_13, false)) (fun K => ldv prog (Instr.loadAt 3 n_1) w K) w fun t_14 w =>
  bindS (vN (Instr.loadAt 23 c_0)) fun m_17 => gate (some (t_13, false)) (fun K => ldv prog (Instr.loadAt 23 c_0) w K) w fun t_16 w =>
  gate (some (t_13, false)) (fun K => pv prog (oNil t_16) w K) w fun t_18 w =>
  gate (some (t_13, false)) (fun K => pvv prog (Instr.fieldAt 59 t_18 0) w K) w fun t_19 w =>
  gate (some (t_13, false)) (fun K => pvv prog (Instr.fieldAt 57 t_19 0) w K) w fun t_20 w =>
  bindS (vN (Instr.loadAt 3 t_20)) fun m_22 => gate (some (t_13, false)) (fun K => ldv prog (Instr.loadAt 3 t_20) w K) w fun t_21 w =>
  gate (some (t_13, false)) (fun K => pvv prog (binOp .lss 3 t_14 t_21) w K) w fun t_23 w =>
  pv prog (oPick t_13 (.bool true) t_23) w fun t_24 w =>
  cd t_24 (
    K (.tuple #[(.int .i64 0), (.int .i64 2)]) w) <|
  dr w fun w =>
  bindS (vN (Instr.loadAt 3 n_1)) fun m_26 => ldv prog (Instr.loadAt 3 n_1) w fun t_25 w =>
  bindS (vN (Instr.loadAt 23 c_0)) fun m_28 => ldv prog (Instr.loadAt 23 c_0) w fun t_27 w =>
  pv prog (oNil t_27) w fun t_29 w =>
  pvv prog (Instr.fieldAt 59 t_29 0) w fun t_30 w =>
  pvv prog (Instr.fieldAt 57 t_30 0) w fun t_31 w =>
  bindS (vN (Instr.loadAt 3 t_31)) fun m_33 => ldv prog (Instr.loadAt 3 t_31) w fun t_32 w =>
  pvv prog (binOp .sub 3 t_25 t_32) w fun t_34 w =>
  ldv prog (Instr.loadAt 23 c_0) w fun t_35 w =>
  Calls prog 32 #[t_35] w (Ret fun t_36 w =>
  rng prog 1 t_36 (fun σ w bg_38 ex_39 => pop σ fun t_37 σ => fin σ <|
    efv prog (Instr.alloc 57 true (.tuple #[])) w fun p_40 w =>
    efu prog (Instr.storeAt 57 p_40 t_37) w fun u_41 w =>
    bg_38 w fun w =>
    pvv prog (Instr.fieldAt 57 p_40 0) w fun t_42 w =>
    ldv prog (Instr.loadAt 3 t_42) w fun t_43 w =>
    ldv prog (Instr.loadAt 3 n_1) w fun t_44 w =>
    pvv prog (oEq .eql 3 (.tmp 39) (.tmp 40) t_43 t_44) w fun t_45 w =>
    cd t_45 (
      ldv prog (Instr.loadAt 23 c_0) w fun t_46 w =>
      ldv prog (Instr.loadAt 57 p_40) w fun t_47 w =>
      pv prog (oNil t_46) w fun t_48 w =>
      pvv prog (Instr.fieldAt 59 t_48 0) w fun t_49 w =>
      efu prog (Instr.storeAt 57 t_49 t_47) w fun u_50 w =>
      ex_39 (.exit 1) w) <|
    ex_39 .normal w) w fun p_52 D_51 w =>
  jump (
    dr w fun w =>
    bindS (vN (Instr.loadAt 23 c_0)) fun m_54 => ldv prog (Instr.loadAt 23 c_0) w fun t_53 w =>
    bindS (vN (Instr.loadAt 23 c_0)) fun m_56 => ldv prog (Instr.loadAt 23 c_0) w fun t_55 w =>
    pv prog (oNil t_55) w fun t_57 w =>
    pvv prog (Instr.fieldAt 59 t_57 4) w fun t_58 w =>
    bindS (vN (Instr.loadAt 31 t_58)) fun m_60 => ldv prog (Instr.loadAt 31 t_58) w fun t_59 w =>
    pvv prog (Instr.sliceAt 31 t_59 (some t_34) none none) w fun t_61 w =>
    Calls prog 30 #[t_61] w (Ret fun t_62 w => stay prog none m_60 t_59 w <| stay prog none m_56 t_55 w <| stay prog none m_54 t_53 w <| 
    pv prog (oNil t_53) w fun t_63 w =>
    pvv prog (Instr.fieldAt 59 t_63 4) w fun t_64 w =>
    efu prog (Instr.storeAt 31 t_64 t_62) w fun u_65 w =>
    und [D_51] w fun w => K (.tuple #[t_34, (.int .i64 0)]) w)) (
    und [D_51] w fun w => K (.tuple #[(.int .i64 0), (.int .i64 0)]) w) [(1, dr w fun w =>
    bindS (vN (Instr.loadAt 23 c_0)) fun m_69 => ldv prog (Instr.loadAt 23 c_0) w fun t_68 w =>
    bindS (vN (Instr.loadAt 23 c_0)) fun m_71 => ldv prog (Instr.loadAt 23 c_0) w fun t_70 w =>
    pv prog (oNil t_70) w fun t_72 w =>
    pvv prog (Instr.fieldAt 59 t_72 4) w fun t_73 w =>
    bindS (vN (Instr.loadAt 31 t_73)) fun m_75 => ldv prog (Instr.loadAt 31 t_73) w fun t_74 w =>
    pvv prog (Instr.sliceAt 31 t_74 (some t_34) none none) w fun t_76 w =>
    Calls prog 30 #[t_76] w (Ret fun t_77 w => stay prog none m_75 t_74 w <| stay prog none m_71 t_70 w <| stay prog none m_69 t_68 w <| 
    pv prog (oNil t_68) w fun t_78 w =>
    pvv prog (Instr.fieldAt 59 t_78 4) w fun t_79 w =>
    efu prog (Instr.storeAt 31 t_79 t_77) w fun u_80 w =>
    und [D_51] w fun w => K (.tuple #[t_34, (.int .i64 0)]) w))] p_52)
theorem B18_eq (c_p0 n_p1 : Value) (w : World) (K : Value → World → Prop) : denFn prog Tryd.f18 T18 [c_p0, n_p1] w K = B18 c_p0 n_p1 w K := by kernel_rfl
theorem c18 {c_p0 n_p1 : Value} {w : World} {K : Value → World → Prop} (h : B18 c_p0 n_p1 w K) : Calls prog 18 #[c_p0, n_p1] w (Ret K) :=
  denFn_calls Tryd.func18 T18_ok (Eq.mpr (B18_eq c_p0 n_p1 w K) h)

-- 12 holdfast/holdfastlaw14.do
def T12 : Ann := (.seq .none (.seq (.seq .none (.block (.seq .none (.seq (.seq .none (.seq .none (.seq .none .none))) (.seq .none (.seq (.seq .none (.seq .none (.seq .none .none))) (.seq .none (.seq (.seq .none (.seq .none (.seq .none .none))) .none)))))))) (.seq .none .none)))
theorem T12_ok : chkFn prog Tryd.f12 T12 = true := by kernel_rfl
def B12 (c_p0 r_p1 x_p2 : Value) (w : World) (K : Value → World → Prop) : Prop :=
  efv prog (Instr.box 30 x_p2) w fun x_0 w =>
  pvv prog (Instr.fieldAt 30 x_0 0) w fun t_1 w =>
  ldv prog (Instr.loadAt 3 t_1) w fun t_2 w =>
  pvv prog (oEq .eql 3 (.tmp 20) (.const (.int .i64 0)) t_2 (.int .i64 0)) w fun t_3 w =>
  cd t_3 (
    pvv prog (Instr.fieldAt 30 x_0 1) w fun t_4 w =>
    ldv prog (Instr.loadAt 3 t_4) w fun t_5 w =>
    pvv prog (Instr.fieldAt 30 x_0 3) w fun t_6 w =>
    ldv prog (Instr.loadAt 9 t_6) w fun t_7 w =>
    pvv prog (Instr.fieldAt 30 x_0 4) w fun t_8 w =>
    ldv prog (Instr.loadAt 9 t_8) w fun t_9 w =>
    Calls prog 16 #[c_p0, t_5, t_7, t_9] w (Ret fun t_10 w =>
    pvv prog (Instr.extract t_10 0) w fun t_11 w =>
    pvv prog (Instr.extract t_10 1) w fun t_12 w =>
    efv prog (Instr.alloc 34 true (.tuple #[])) w fun a_13 w =>
    efu prog (Instr.storeAt 34 a_13 t_11) w fun u_14 w =>
    pvv prog (Instr.fieldAt 30 x_0 1) w fun t_15 w =>
    ldv prog (Instr.loadAt 3 t_15) w fun t_16 w =>
    pvv prog (Instr.fieldAt 30 x_0 3) w fun t_17 w =>
    ldv prog (Instr.loadAt 9 t_17) w fun t_18 w =>
    pvv prog (Instr.fieldAt 30 x_0 4) w fun t_19 w =>
    ldv prog (Instr.loadAt 9 t_19) w fun t_20 w =>
    Calls prog 26 #[r_p1, t_16, t_18, t_20] w (Ret fun t_21 w =>
    pvv prog (Instr.extract t_21 0) w fun t_22 w =>
    pvv prog (Instr.extract t_21 1) w fun t_23 w =>
    efv prog (Instr.alloc 34 true (.tuple #[])) w fun b_24 w =>
    efu prog (Instr.storeAt 34 b_24 t_22) w fun u_25 w =>
    ldv prog (Instr.loadAt 34 a_13) w fun t_26 w =>
    ldv prog (Instr.loadAt 34 b_24) w fun t_27 w =>
    pvv prog (oEq .eql 34 (.tmp 45) (.tmp 46) t_26 t_27) w fun t_28 w =>
    gate (some (t_28, true)) (fun K => K t_12 w) w fun t_29 w =>
    gate (some (t_28, true)) (fun K => K t_23 w) w fun t_30 w =>
    gate (some (t_28, true)) (fun K => pvv prog (oEq .eql 41 (.tmp 49) (.tmp 50) t_29 t_30) w K) w fun t_31 w =>
    pv prog (oPick t_28 t_31 (.bool false)) w fun t_32 w =>
    K t_32 w))) <|
  pvv prog (oEq .eql 3 (.tmp 20) (.const (.int .i64 1)) t_2 (.int .i64 1)) w fun t_33 w =>
  cd t_33 (
    Calls prog 17 #[c_p0] w (Ret fun t_34 w =>
    pvv prog (Instr.extract t_34 0) w fun t_35 w =>
    pvv prog (Instr.extract t_34 1) w fun t_36 w =>
    efv prog (Instr.alloc 36 true (.tuple #[])) w fun h_37 w =>
    efu prog (Instr.storeAt 36 h_37 t_36) w fun u_38 w =>
    Calls prog 27 #[r_p1] w (Ret fun t_39 w =>
    pvv prog (Instr.extract t_39 0) w fun t_40 w =>
    pvv prog (Instr.extract t_39 1) w fun t_41 w =>
    efv prog (Instr.alloc 36 true (.tuple #[])) w fun g_42 w =>
    efu prog (Instr.storeAt 36 g_42 t_41) w fun u_43 w =>
    pvv prog (oEq .eql 3 (.tmp 65) (.tmp 66) t_35 t_40) w fun t_44 w =>
    gate (some (t_44, true)) (fun K => ldv prog (Instr.loadAt 36 h_37) w K) w fun t_45 w =>
    gate (some (t_44, true)) (fun K => ldv prog (Instr.loadAt 36 g_42) w K) w fun t_46 w =>
    gate (some (t_44, true)) (fun K => pvv prog (oEq .eql 36 (.tmp 69) (.tmp 70) t_45 t_46) w K) w fun t_47 w =>
    pv prog (oPick t_44 t_47 (.bool false)) w fun t_48 w =>
    K t_48 w))) <|
  pvv prog (oEq .eql 3 (.tmp 20) (.const (.int .i64 2)) t_2 (.int .i64 2)) w fun t_49 w =>
  cd t_49 (
    pvv prog (Instr.fieldAt 30 x_0 2) w fun t_50 w =>
    ldv prog (Instr.loadAt 3 t_50) w fun t_51 w =>
    Calls prog 18 #[c_p0, t_51] w (Ret fun t_52 w =>
    pvv prog (Instr.extract t_52 0) w fun t_53 w =>
    pvv prog (Instr.extract t_52 1) w fun t_54 w =>
    pvv prog (Instr.fieldAt 30 x_0 2) w fun t_55 w =>
    ldv prog (Instr.loadAt 3 t_55) w fun t_56 w =>
    Calls prog 28 #[r_p1, t_56] w (Ret fun t_57 w =>
    pvv prog (Instr.extract t_57 0) w fun t_58 w =>
    pvv prog (Instr.extract t_57 1) w fun t_59 w =>
    pvv prog (oEq .eql 3 (.tmp 89) (.tmp 90) t_53 t_58) w fun t_60 w =>
    gate (some (t_60, true)) (fun K => K t_54 w) w fun t_61 w =>
    gate (some (t_60, true)) (fun K => K t_59 w) w fun t_62 w =>
    gate (some (t_60, true)) (fun K => pvv prog (oEq .eql 41 (.tmp 93) (.tmp 94) t_61 t_62) w K) w fun t_63 w =>
    pv prog (oPick t_60 t_63 (.bool false)) w fun t_64 w =>
    K t_64 w))) <|
  Calls prog 20 #[c_p0] w (Ret fun t_65 w =>
  Calls prog 29 #[r_p1] w (Ret fun t_66 w =>
  pvv prog (oEq .eql 41 (.tmp 98) (.tmp 100) t_65 t_66) w fun t_67 w =>
  K t_67 w))
theorem B12_eq (c_p0 r_p1 x_p2 : Value) (w : World) (K : Value → World → Prop) : denFn prog Tryd.f12 T12 [c_p0, r_p1, x_p2] w K = B12 c_p0 r_p1 x_p2 w K := by kernel_rfl
theorem c12 {c_p0 r_p1 x_p2 : Value} {w : World} {K : Value → World → Prop} (h : B12 c_p0 r_p1 x_p2 w K) : Calls prog 12 #[c_p0, r_p1, x_p2] w (Ret K) :=
  denFn_calls Tryd.func12 T12_ok (Eq.mpr (B12_eq c_p0 r_p1 x_p2 w K) h)

-- 146 gosem.cut.vars
def T146 : Ann := (.seq .none (.seq .none (.seq .none (.seq .none (.seq .none .none)))))
theorem T146_ok : chkFn prog Tryd.f146 T146 = true := by kernel_rfl
def B146 (w : World) (K : Value → World → Prop) : Prop :=
  pvv prog (Instr.build 35 #[(0, (.int .u8 0)), (1, (.int .u8 1)), (2, (.int .u8 28)), (3, (.int .u8 2)), (4, (.int .u8 29)), (5, (.int .u8 14)), (6, (.int .u8 24)), (7, (.int .u8 3)), (8, (.int .u8 30)), (9, (.int .u8 22)), (10, (.int .u8 20)), (11, (.int .u8 15)), (12, (.int .u8 25)), (13, (.int .u8 17)), (14, (.int .u8 4)), (15, (.int .u8 8)), (16, (.int .u8 31)), (17, (.int .u8 27)), (18, (.int .u8 13)), (19, (.int .u8 23)), (20, (.int .u8 21)), (21, (.int .u8 19)), (22, (.int .u8 16)), (23, (.int .u8 7)), (24, (.int .u8 26)), (25, (.int .u8 12)), (26, (.int .u8 18)), (27, (.int .u8 6)), (28, (.int .u8 11)), (29, (.int .u8 5)), (30, (.int .u8 10)), (31, (.int .u8 9))]) w fun t_0 w =>
  efu prog (Instr.storeAt 35 (.pointer (some ⟨5, 0, none⟩)) t_0) w fun u_1 w =>
  pvv prog (Instr.build 160 #[(0, (.int .u8 0)), (1, (.int .u8 1)), (2, (.int .u8 56)), (3, (.int .u8 2)), (4, (.int .u8 57)), (5, (.int .u8 49)), (6, (.int .u8 28)), (7, (.int .u8 3)), (8, (.int .u8 61)), (9, (.int .u8 58)), (10, (.int .u8 42)), (11, (.int .u8 50)), (12, (.int .u8 38)), (13, (.int .u8 29)), (14, (.int .u8 17)), (15, (.int .u8 4)), (16, (.int .u8 62)), (17, (.int .u8 47)), (18, (.int .u8 59)), (19, (.int .u8 36)), (20, (.int .u8 45)), (21, (.int .u8 43)), (22, (.int .u8 51)), (23, (.int .u8 22)), (24, (.int .u8 53)), (25, (.int .u8 39)), (26, (.int .u8 33)), (27, (.int .u8 30)), (28, (.int .u8 24)), (29, (.int .u8 18)), (30, (.int .u8 12)), (31, (.int .u8 5)), (32, (.int .u8 63)), (33, (.int .u8 55)), (34, (.int .u8 48)), (35, (.int .u8 27)), (36, (.int .u8 60)), (37, (.int .u8 41)), (38, (.int .u8 37)), (39, (.int .u8 16)), (40, (.int .u8 46)), (41, (.int .u8 35)), (42, (.int .u8 44)), (43, (.int .u8 21)), (44, (.int .u8 52)), (45, (.int .u8 32)), (46, (.int .u8 23)), (47, (.int .u8 11)), (48, (.int .u8 54)), (49, (.int .u8 26)), (50, (.int .u8 40)), (51, (.int .u8 15)), (52, (.int .u8 34)), (53, (.int .u8 20)), (54, (.int .u8 31)), (55, (.int .u8 10)), (56, (.int .u8 25)), (57, (.int .u8 14)), (58, (.int .u8 19)), (59, (.int .u8 9)), (60, (.int .u8 13)), (61, (.int .u8 8)), (62, (.int .u8 7)), (63, (.int .u8 6))]) w fun t_2 w =>
  efu prog (Instr.storeAt 160 (.pointer (some ⟨6, 0, none⟩)) t_2) w fun u_3 w =>
  pvv prog (Instr.build 139 #[(0, (.int .u64 1)), (1, (.int .u64 10)), (2, (.int .u64 100)), (3, (.int .u64 1000)), (4, (.int .u64 10000)), (5, (.int .u64 100000)), (6, (.int .u64 1000000)), (7, (.int .u64 10000000)), (8, (.int .u64 100000000)), (9, (.int .u64 1000000000)), (10, (.int .u64 10000000000)), (11, (.int .u64 100000000000)), (12, (.int .u64 1000000000000)), (13, (.int .u64 10000000000000)), (14, (.int .u64 100000000000000)), (15, (.int .u64 1000000000000000)), (16, (.int .u64 10000000000000000)), (17, (.int .u64 100000000000000000)), (18, (.int .u64 1000000000000000000)), (19, (.int .u64 10000000000000000000))]) w fun t_4 w =>
  efu prog (Instr.storeAt 139 (.pointer (some ⟨0, 0, none⟩)) t_4) w fun u_5 w =>
  pvv prog (Instr.build 151 #[(0, (.int .u8 128)), (1, (.int .u8 191))]) w fun t_6 w =>
  pvv prog (Instr.build 151 #[(0, (.int .u8 160)), (1, (.int .u8 191))]) w fun t_7 w =>
  pvv prog (Instr.build 151 #[(0, (.int .u8 128)), (1, (.int .u8 159))]) w fun t_8 w =>
  pvv prog (Instr.build 151 #[(0, (.int .u8 144)), (1, (.int .u8 191))]) w fun t_9 w =>
  pvv prog (Instr.build 151 #[(0, (.int .u8 128)), (1, (.int .u8 143))]) w fun t_10 w =>
  pvv prog (Instr.build 152 #[(0, t_6), (1, t_7), (2, t_8), (3, t_9), (4, t_10)]) w fun t_11 w =>
  efu prog (Instr.storeAt 152 (.pointer (some ⟨4, 0, none⟩)) t_11) w fun u_12 w =>
  Calls prog 107 #[(.string ⟨#[118, 97, 108, 117, 101, 32, 111, 117, 116, 32, 111, 102, 32, 114, 97, 110, 103, 101]⟩)] w (Ret fun t_13 w =>
  efu prog (Instr.storeAt 98 (.pointer (some ⟨2, 0, none⟩)) t_13) w fun u_14 w =>
  Calls prog 107 #[(.string ⟨#[105, 110, 118, 97, 108, 105, 100, 32, 115, 121, 110, 116, 97, 120]⟩)] w (Ret fun t_15 w =>
  efu prog (Instr.storeAt 98 (.pointer (some ⟨1, 0, none⟩)) t_15) w fun u_16 w =>
  K (.tuple #[]) w))
theorem B146_eq (w : World) (K : Value → World → Prop) : denFn prog Tryd.f146 T146 [] w K = B146  w K := by kernel_rfl
theorem c146 {w : World} {K : Value → World → Prop} (h : B146  w K) : Calls prog 146 #[] w (Ret K) :=
  denFn_calls Tryd.func146 T146_ok (Eq.mpr (B146_eq  w K) h)

-- 29 (*holdfast/holdfastref14.Chain).Verify
def T29 : Ann := (.seq .none (.seq (.block (.seq .none (.seq (.seq .none .none) (.seq (.draw [.op 0 .pure, .op 1 .pure, .op 2 .pure, .op 3 .pure, .op 7 .pure, .op 8 .pure, .op 9 .pure, .op 4 .load, .op 5 .pure, .op 10 .load, .op 6 .eff, .op 11 .pure, .op 12 .pure]) (.seq (.seq .none .none) (.seq (.draw [.op 0 .pure, .op 1 .pure, .op 2 .pure, .op 4 .pure, .op 5 .pure, .op 6 .pure, .op 3 .load, .op 7 .load, .op 8 .pure, .op 9 .pure, .op 10 .pure, .op 11 .pure, .op 12 .pure, .op 13 .pure, .op 15 .pure, .op 16 .pure, .op 17 .pure, .op 21 .pure, .op 22 .pure, .op 23 .pure, .op 14 .load, .op 18 .load, .op 19 .pure, .op 24 .load, .op 20 .eff, .op 25 .pure, .op 26 .pure, .op 27 .pure]) (.seq (.seq .none .none) .none))))))) (.seq .none .none)))
theorem T29_ok : chkFn prog Tryd.f29 T29 = true := by kernel_rfl
def B29 (c_p0 : Value) (w : World) (K : Value → World → Prop) : Prop :=
  pvv prog (oEq .eql 25 (.tmp 4) (.const (.pointer none)) c_p0 (.pointer none)) w fun t_0 w =>
  cd t_0 (
    K (.int .i64 1) w) <|
  dr w fun w =>
  pv prog (oNil c_p0) w fun t_1 w =>
  pvv prog (Instr.fieldAt 61 t_1 6) w fun t_2 w =>
  pv prog (oNil c_p0) w fun t_3 w =>
  pvv prog (Instr.fieldAt 61 t_3 5) w fun t_4 w =>
  bindS (vN (Instr.loadAt 31 t_2)) fun m_6 => ldv prog (Instr.loadAt 31 t_2) w fun t_5 w =>
  pv prog (oBi .len #[31] 3 #[false] #[t_5]) w fun t_7 w =>
  bindS (vN (Instr.loadAt 36 t_4)) fun m_9 => ldv prog (Instr.loadAt 36 t_4) w fun t_8 w =>
  Calls prog 44 #[c_p0, t_7] w (Ret fun t_10 w => stay prog none m_9 t_8 w <| stay prog none m_6 t_5 w <| 
  pvv prog (oEq .neq 36 (.tmp 13) (.tmp 17) t_10 t_8) w fun t_11 w =>
  cd t_11 (
    K (.int .i64 15) w) <|
  dr w fun w =>
  pv prog (oNil c_p0) w fun t_12 w =>
  pvv prog (Instr.fieldAt 61 t_12 1) w fun t_13 w =>
  pv prog (oNil c_p0) w fun t_14 w =>
  pvv prog (Instr.fieldAt 61 t_14 0) w fun t_15 w =>
  bindS (vN (Instr.loadAt 3 t_13)) fun m_17 => ldv prog (Instr.loadAt 3 t_13) w fun t_16 w =>
  bindS (vN (Instr.loadAt 3 t_15)) fun m_19 => ldv prog (Instr.loadAt 3 t_15) w fun t_18 w =>
  pvv prog (binOp .geq 3 t_16 t_18) w fun t_20 w =>
  gate (some (t_20, true)) (fun K => K c_p0 w) w fun t_21 w =>
  gate (some (t_20, true)) (fun K => K c_p0 w) w fun t_22 w =>
  gate (some (t_20, true)) (fun K => pv prog (oNil t_22) w K) w fun t_23 w =>
  gate (some (t_20, true)) (fun K => pvv prog (Instr.fieldAt 61 t_23 1) w K) w fun t_24 w =>
  gate (some (t_20, true)) (fun K => K c_p0 w) w fun t_25 w =>
  gate (some (t_20, true)) (fun K => pv prog (oNil t_25) w K) w fun t_26 w =>
  gate (some (t_20, true)) (fun K => pvv prog (Instr.fieldAt 61 t_26 0) w K) w fun t_27 w =>
  gate (some (t_20, true)) (fun K => K c_p0 w) w fun t_28 w =>
  gate (some (t_20, true)) (fun K => pv prog (oNil t_28) w K) w fun t_29 w =>
  gate (some (t_20, true)) (fun K => pvv prog (Instr.fieldAt 61 t_29 4) w K) w fun t_30 w =>
  bindS (vN (Instr.loadAt 3 t_24)) fun m_32 => gate (some (t_20, true)) (fun K => ldv prog (Instr.loadAt 3 t_24) w K) w fun t_31 w =>
  bindS (vN (Instr.loadAt 3 t_27)) fun m_34 => gate (some (t_20, true)) (fun K => ldv prog (Instr.loadAt 3 t_27) w K) w fun t_33 w =>
  gate (some (t_20, true)) (fun K => pvv prog (binOp .sub 3 t_31 t_33) w K) w fun t_35 w =>
  bindS (vN (Instr.loadAt 36 t_30)) fun m_37 => gate (some (t_20, true)) (fun K => ldv prog (Instr.loadAt 36 t_30) w K) w fun t_36 w =>
  gate (some (t_20, true)) (fun K => Calls prog 44 #[t_21, t_35] w (Ret fun s_41 w => stay prog (some (t_20, true)) m_37 t_36 w <| stay prog (some (t_20, true)) m_34 t_33 w <| stay prog (some (t_20, true)) m_32 t_31 w <| stay prog none m_19 t_18 w <| stay prog none m_17 t_16 w <| K s_41 w)) w fun t_38 w =>
  gate (some (t_20, true)) (fun K => pvv prog (oEq .neq 36 (.tmp 40) (.tmp 44) t_38 t_36) w K) w fun t_39 w =>
  pv prog (oPick t_20 t_39 (.bool false)) w fun t_40 w =>
  cd t_40 (
    K (.int .i64 15) w) <|
  K (.int .i64 0) w)
theorem B29_eq (c_p0 : Value) (w : World) (K : Value → World → Prop) : denFn prog Tryd.f29 T29 [c_p0] w K = B29 c_p0 w K := by kernel_rfl
theorem c29 {c_p0 : Value} {w : World} {K : Value → World → Prop} (h : B29 c_p0 w K) : Calls prog 29 #[c_p0] w (Ret K) :=
  denFn_calls Tryd.func29 T29_ok (Eq.mpr (B29_eq c_p0 w K) h)

-- 47 (*holdfast/audit.Chain).links$1
def T47 : Ann := (.seq .none (.seq (.seq .none (.seq .none .none)) (.seq .none (.block (.loop 68718952480 [19] (.seq .none (.seq (.seq .none .none) (.seq (.block (.seq .none (.seq (.draw [.op 0 .pure, .op 3 .pure, .op 1 .load, .op 2 .pure, .op 4 .load, .op 5 .load, .op 6 .eff, .op 7 .pure, .op 8 .eff]) (.seq .none (.seq .none .none))))) .none))))))))
theorem T47_ok : chkFn prog Tryd.f47 T47 = true := by kernel_rfl
def B47 (yield_p0 x_p1 : Value) (w : World) (K : Value → World → Prop) : Prop :=
  ldv prog (Instr.loadAt 23 x_p1) w fun t_0 w =>
  pv prog (oNil t_0) w fun t_1 w =>
  pvv prog (Instr.fieldAt 59 t_1 0) w fun t_2 w =>
  ldv prog (Instr.loadAt 57 t_2) w fun t_3 w =>
  efv prog (Instr.alloc 57 true (.tuple #[])) w fun p_4 w =>
  efu prog (Instr.storeAt 57 p_4 t_3) w fun u_5 w =>
  ldv prog (Instr.loadAt 57 p_4) w fun t_6 w =>
  ef prog (oCall yield_p0 #[t_6]) w fun t_7 w =>
  pvv prog (Op.unary .not t_7) w fun t_8 w =>
  cd t_8 (
    K (.tuple #[]) w) <|
  ldv prog (Instr.loadAt 23 x_p1) w fun t_9 w =>
  pv prog (oNil t_9) w fun t_10 w =>
  pvv prog (Instr.fieldAt 59 t_10 4) w fun t_11 w =>
  ldv prog (Instr.loadAt 31 t_11) w fun t_12 w =>
  pv prog (oBi .len #[31] 3 #[false] #[t_12]) w fun t_13 w =>
  lp (fun σ w again_15 => pop σ fun t_14 σ => fin σ <|
    pvv prog (binOp .lss 3 t_14 t_13) w fun t_16 w =>
    cd t_16 (
      pvv prog (Instr.indexAt 31 t_12 t_14) w fun t_17 w =>
      ldv prog (Instr.loadAt 34 t_17) w fun t_18 w =>
      efv prog (Instr.alloc 34 true (.tuple #[])) w fun x_19 w =>
      efu prog (Instr.storeAt 34 x_19 t_18) w fun u_20 w =>
      dr w fun w =>
      pvv prog (Instr.fieldAt 57 p_4 0) w fun t_21 w =>
      pvv prog (Instr.fieldAt 57 p_4 1) w fun t_22 w =>
      bindS (vN (Instr.loadAt 3 t_21)) fun m_24 => ldv prog (Instr.loadAt 3 t_21) w fun t_23 w =>
      pvv prog (binOp .add 3 t_23 (.int .i64 1)) w fun t_25 w =>
      bindS (vN (Instr.loadAt 36 t_22)) fun m_27 => ldv prog (Instr.loadAt 36 t_22) w fun t_26 w =>
      bindS (vN (Instr.loadAt 34 x_19)) fun m_29 => ldv prog (Instr.loadAt 34 x_19) w fun t_28 w =>
      Calls prog 31 #[t_26, t_28] w (Ret fun t_30 w => stay prog none m_24 t_23 w <| 
      pvv prog (Instr.build 57 #[(0, t_25), (1, t_30)]) w fun t_31 w =>
      efu prog (Instr.storeAt 57 p_4 t_31) w fun u_32 w =>
      ldv prog (Instr.loadAt 57 p_4) w fun t_33 w =>
      ef prog (oCall yield_p0 #[t_33]) w fun t_34 w =>
      pvv prog (Op.unary .not t_34) w fun t_35 w =>
      cd t_35 (
        K (.tuple #[]) w) <|
      pvv prog (binOp .add 3 t_14 (.int .i64 1)) w fun t_36 w =>
      again_15 [t_36] w)) <|
    K (.tuple #[]) w) [(.int .i64 0)] w
theorem B47_eq (yield_p0 x_p1 : Value) (w : World) (K : Value → World → Prop) : denFn prog Tryd.f47 T47 [yield_p0, x_p1] w K = B47 yield_p0 x_p1 w K := by kernel_rfl
theorem c47 {yield_p0 x_p1 : Value} {w : World} {K : Value → World → Prop} (h : B47 yield_p0 x_p1 w K) : Calls prog 47 #[yield_p0, x_p1] w (Ret K) :=
  denFn_calls Tryd.func47 T47_ok (Eq.mpr (B47_eq yield_p0 x_p1 w K) h)

-- 56 holdfast/holdfastref02.Row
def T56 : Ann := (.seq .none (.seq (.seq .none (.seq (.seq .none .none) .none)) (.seq .none (.seq (.seq .none (.block (.loop 1099511619644 [4, 5] (.seq (.seq .none (.seq .none .none)) (.seq (.block (.seq (.seq .none (.seq (.seq .none .none) .none)) (.seq .none .none))) .none))))) (.seq (.seq .none (.seq (.seq .none .none) .none)) (.seq .none .none))))))
theorem T56_ok : chkFn prog Tryd.f56 T56 = true := by kernel_rfl
def B56 (columns_p0 : Value) (w : World) (K : Value → World → Prop) : Prop :=
  pv prog (oBi .len #[69] 3 #[false] #[columns_p0]) w fun t_0 w =>
  pvv prog (binOp .gtr 3 t_0 (.int .i64 8)) w fun t_1 w =>
  cd t_1 (
    K (.tuple #[(.slice none 0 0), (.int .i64 2)]) w) <|
  pv prog (oBi .len #[69] 3 #[false] #[columns_p0]) w fun t_2 w =>
  pvv prog (convert 3 5 t_2) w fun t_3 w =>
  efv prog (Instr.buildSlice 72 1 #[(0, t_3)]) w fun t_4 w =>
  lp (fun σ w again_7 => pop σ fun out_5 σ => pop σ fun i_6 σ => fin σ <|
    pv prog (oBi .len #[69] 3 #[false] #[columns_p0]) w fun t_8 w =>
    pvv prog (binOp .lss 3 i_6 t_8) w fun t_9 w =>
    cd t_9 (
      pvv prog (Instr.indexAt 69 columns_p0 i_6) w fun t_10 w =>
      ldv prog (Instr.loadAt 9 t_10) w fun t_11 w =>
      pv prog (oBi .len #[9] 3 #[false] #[t_11]) w fun t_12 w =>
      pvv prog (binOp .gtr 3 t_12 (.int .i64 70)) w fun t_13 w =>
      cd t_13 (
        K (.tuple #[(.slice none 0 0), (.int .i64 6)]) w) <|
      pvv prog (Instr.indexAt 69 columns_p0 i_6) w fun t_14 w =>
      ldv prog (Instr.loadAt 9 t_14) w fun t_15 w =>
      pv prog (oBi .len #[9] 3 #[false] #[t_15]) w fun t_16 w =>
      pvv prog (convert 3 5 t_16) w fun t_17 w =>
      efv prog (Instr.buildSlice 72 1 #[(0, t_17)]) w fun t_18 w =>
      ef prog (oBi .append #[72, 72] 72 #[false, false] #[out_5, t_18]) w fun t_19 w =>
      pvv prog (Instr.indexAt 69 columns_p0 i_6) w fun t_20 w =>
      ldv prog (Instr.loadAt 9 t_20) w fun t_21 w =>
      ef prog (oBi .append #[72, 9] 72 #[false, false] #[t_19, t_21]) w fun t_22 w =>
      pvv prog (binOp .add 3 i_6 (.int .i64 1)) w fun t_23 w =>
      again_7 [t_22, t_23] w) <|
    pv prog (oBi .len #[72] 3 #[false] #[out_5]) w fun t_24 w =>
    pvv prog (binOp .gtr 3 t_24 (.int .i64 72)) w fun t_25 w =>
    cd t_25 (
      K (.tuple #[(.slice none 0 0), (.int .i64 6)]) w) <|
    K (.tuple #[out_5, (.int .i64 0)]) w) [t_4, (.int .i64 0)] w
theorem B56_eq (columns_p0 : Value) (w : World) (K : Value → World → Prop) : denFn prog Tryd.f56 T56 [columns_p0] w K = B56 columns_p0 w K := by kernel_rfl
theorem c56 {columns_p0 : Value} {w : World} {K : Value → World → Prop} (h : B56 columns_p0 w K) : Calls prog 56 #[columns_p0] w (Ret K) :=
  denFn_calls Tryd.func56 T56_ok (Eq.mpr (B56_eq columns_p0 w K) h)

-- 63 strings.Trim
def T63 : Ann := (.seq .none (.seq (.seq .none (.seq (.seq .none .none) .none)) (.seq (.seq .none (.seq (.seq (.draw [.op 0 .pure, .op 1 .pure, .op 2 .pure, .op 4 .pure, .op 5 .pure, .op 3 .eff, .op 6 .eff, .op 7 .pure]) .none) .none)) (.seq (.seq .none (.seq .none (.seq (.seq .none .none) .none))) (.seq .none .none)))))
theorem T63_ok : chkFn prog Tryd.f63 T63 = true := by kernel_rfl
def B63 (s_p0 cutset_p1 : Value) (w : World) (K : Value → World → Prop) : Prop :=
  pvv prog (oEq .eql 9 (.tmp 7) (.const (.string ⟨#[]⟩)) s_p0 (.string ⟨#[]⟩)) w fun t_0 w =>
  gate (some (t_0, false)) (fun K => K cutset_p1 w) w fun t_1 w =>
  gate (some (t_0, false)) (fun K => pvv prog (oEq .eql 9 (.tmp 10) (.const (.string ⟨#[]⟩)) t_1 (.string ⟨#[]⟩)) w K) w fun t_2 w =>
  pv prog (oPick t_0 (.bool true) t_2) w fun t_3 w =>
  cd t_3 (
    K s_p0 w) <|
  pv prog (oBi .len #[9] 3 #[false] #[cutset_p1]) w fun t_4 w =>
  pvv prog (oEq .eql 3 (.tmp 15) (.const (.int .i64 1)) t_4 (.int .i64 1)) w fun t_5 w =>
  gate (some (t_5, true)) (fun K => K cutset_p1 w) w fun t_6 w =>
  gate (some (t_5, true)) (fun K => pvv prog (Instr.index 9 t_6 (.int .i64 0)) w K) w fun t_7 w =>
  gate (some (t_5, true)) (fun K => pvv prog (binOp .lss 5 t_7 (.int .u8 128)) w K) w fun t_8 w =>
  pv prog (oPick t_5 t_8 (.bool false)) w fun t_9 w =>
  cd t_9 (
    dr w fun w =>
    pvv prog (Instr.index 9 cutset_p1 (.int .i64 0)) w fun t_10 w =>
    pvv prog (Instr.index 9 cutset_p1 (.int .i64 0)) w fun t_11 w =>
    Calls prog 75 #[s_p0, t_10] w (Ret fun t_12 w =>
    Calls prog 74 #[t_12, t_11] w (Ret fun t_13 w =>
    K t_13 w))) <|
  Calls prog 76 #[cutset_p1] w (Ret fun t_16 w =>
  pvv prog (Instr.extract t_16 0) w fun t_17 w =>
  pvv prog (Instr.extract t_16 1) w fun t_18 w =>
  efv prog (Instr.alloc 115 true (.tuple #[])) w fun as_19 w =>
  efu prog (Instr.storeAt 115 as_19 t_17) w fun u_20 w =>
  cd t_18 (
    Calls prog 78 #[s_p0, as_19] w (Ret fun t_21 w =>
    Calls prog 77 #[t_21, as_19] w (Ret fun t_22 w =>
    K t_22 w))) <|
  Calls prog 80 #[s_p0, cutset_p1] w (Ret fun t_23 w =>
  Calls prog 79 #[t_23, cutset_p1] w (Ret fun t_24 w =>
  K t_24 w)))
theorem B63_eq (s_p0 cutset_p1 : Value) (w : World) (K : Value → World → Prop) : denFn prog Tryd.f63 T63 [s_p0, cutset_p1] w K = B63 s_p0 cutset_p1 w K := by kernel_rfl
theorem c63 {s_p0 cutset_p1 : Value} {w : World} {K : Value → World → Prop} (h : B63 s_p0 cutset_p1 w K) : Calls prog 63 #[s_p0, cutset_p1] w (Ret K) :=
  denFn_calls Tryd.func63 T63_ok (Eq.mpr (B63_eq s_p0 cutset_p1 w K) h)

-- 31 holdfast/audit.next
def T31 : Ann := (.seq .none (.seq (.draw [.op 0 .pure, .op 3 .pure, .op 6 .pure, .op 8 .pure, .op 1 .load, .op 4 .load, .op 7 .load, .op 9 .load, .op 2 .eff, .op 5 .eff, .op 10 .eff, .op 11 .eff, .op 12 .pure, .op 13 .pure, .op 14 .pure, .op 15 .pure, .op 16 .pure]) (.seq .none .none)))
theorem T31_ok : chkFn prog Tryd.f31 T31 = true := by kernel_rfl
def B31 (h_p0 x_p1 : Value) (w : World) (K : Value → World → Prop) : Prop :=
  efv prog (Instr.box 36 h_p0) w fun h_0 w =>
  efv prog (Instr.box 34 x_p1) w fun x_1 w =>
  efv prog (Instr.alloc 36 true (.tuple #[])) w fun t_2 w =>
  dr w fun w =>
  pvv prog (Instr.fieldAt 34 x_1 0) w fun t_3 w =>
  pvv prog (Instr.fieldAt 34 x_1 1) w fun t_4 w =>
  pvv prog (Instr.fieldAt 34 x_1 2) w fun t_5 w =>
  pvv prog (Instr.fieldAt 34 x_1 3) w fun t_6 w =>
  bindS (vN (Instr.loadAt 3 t_3)) fun m_8 => ldv prog (Instr.loadAt 3 t_3) w fun t_7 w =>
  bindS (vN (Instr.loadAt 3 t_4)) fun m_10 => ldv prog (Instr.loadAt 3 t_4) w fun t_9 w =>
  bindS (vN (Instr.loadAt 9 t_5)) fun m_12 => ldv prog (Instr.loadAt 9 t_5) w fun t_11 w =>
  bindS (vN (Instr.loadAt 9 t_6)) fun m_14 => ldv prog (Instr.loadAt 9 t_6) w fun t_13 w =>
  Calls prog 39 #[t_7] w (Ret fun t_15 w => stay prog none m_14 t_13 w <| stay prog none m_12 t_11 w <| stay prog none m_10 t_9 w <| 
  Calls prog 39 #[t_9] w (Ret fun t_16 w => stay prog none m_14 t_13 w <| stay prog none m_12 t_11 w <| stay prog none m_8 t_7 w <| 
  efv prog (Instr.buildSlice 69 4 #[(0, t_15), (1, t_16), (2, t_11), (3, t_13)]) w fun t_17 w => stay prog none m_10 t_9 w <| stay prog none m_8 t_7 w <| 
  Calls prog 45 #[t_17] w (Ret fun t_18 w => stay prog none m_14 t_13 w <| stay prog none m_12 t_11 w <| stay prog none m_10 t_9 w <| stay prog none m_8 t_7 w <| 
  pvv prog (Instr.extract t_18 0) w fun t_19 w =>
  pvv prog (Instr.extract t_18 1) w fun t_20 w =>
  ldv prog (Instr.loadAt 36 h_0) w fun t_21 w =>
  Calls prog 46 #[t_21, t_19] w (Ret fun t_22 w =>
  efu prog (Instr.storeAt 36 t_2 t_22) w fun u_23 w =>
  ∃ r_24, (do loadVar 36 (← asAddr t_2)).run prog w = .ok r_24 w ∧ K r_24 w))))
theorem B31_eq (h_p0 x_p1 : Value) (w : World) (K : Value → World → Prop) : denFn prog Tryd.f31 T31 [h_p0, x_p1] w K = B31 h_p0 x_p1 w K := by kernel_rfl
theorem c31 {h_p0 x_p1 : Value} {w : World} {K : Value → World → Prop} (h : B31 h_p0 x_p1 w K) : Calls prog 31 #[h_p0, x_p1] w (Ret K) :=
  denFn_calls Tryd.func31 T31_ok (Eq.mpr (B31_eq h_p0 x_p1 w K) h)

-- 44 (*holdfast/holdfastref14.Chain).At
def T44 : Ann := (.seq .none (.seq .none (.seq (.seq .none (.block (.loop 67106880 [6] (.seq (.seq .none (.seq .none .none)) (.seq (.block (.draw [.op 1 .pure, .op 2 .pure, .op 3 .pure, .op 5 .pure, .op 0 .load, .op 4 .load, .op 6 .pure, .op 7 .load, .op 8 .eff, .op 9 .eff, .op 10 .eff])) .none))))) (.seq .none .none))))
theorem T44_ok : chkFn prog Tryd.f44 T44 = true := by kernel_rfl
def B44 (c_p0 k_p1 : Value) (w : World) (K : Value → World → Prop) : Prop :=
  efv prog (Instr.alloc 36 true (.tuple #[])) w fun t_0 w =>
  pv prog (oNil c_p0) w fun t_1 w =>
  pvv prog (Instr.fieldAt 61 t_1 3) w fun t_2 w =>
  ldv prog (Instr.loadAt 36 t_2) w fun t_3 w =>
  efv prog (Instr.alloc 36 true (.tuple #[])) w fun h_4 w =>
  efu prog (Instr.storeAt 36 h_4 t_3) w fun u_5 w =>
  lp (fun σ w again_7 => pop σ fun i_6 σ => fin σ <|
    pvv prog (binOp .lss 3 i_6 k_p1) w fun t_8 w =>
    cd t_8 (
      dr w fun w =>
      pv prog (oNil c_p0) w fun t_9 w =>
      pvv prog (Instr.fieldAt 61 t_9 6) w fun t_10 w =>
      bindS (vN (Instr.loadAt 36 h_4)) fun m_12 => ldv prog (Instr.loadAt 36 h_4) w fun t_11 w =>
      bindS (vN (Instr.loadAt 31 t_10)) fun m_14 => ldv prog (Instr.loadAt 31 t_10) w fun t_13 w =>
      pvv prog (Instr.indexAt 31 t_13 i_6) w fun t_15 w =>
      bindS (vN (Instr.loadAt 34 t_15)) fun m_17 => ldv prog (Instr.loadAt 34 t_15) w fun t_16 w =>
      Calls prog 43 #[t_16] w (Ret fun t_18 w => stay prog none m_14 t_13 w <| stay prog none m_12 t_11 w <| 
      Calls prog 42 #[t_11, t_18] w (Ret fun t_19 w => stay prog none m_17 t_16 w <| stay prog none m_14 t_13 w <| 
      efu prog (Instr.storeAt 36 h_4 t_19) w fun u_20 w =>
      pvv prog (binOp .add 3 i_6 (.int .i64 1)) w fun t_21 w =>
      again_7 [t_21] w))) <|
    ldv prog (Instr.loadAt 36 h_4) w fun t_25 w =>
    efu prog (Instr.storeAt 36 t_0 t_25) w fun u_26 w =>
    ∃ r_27, (do loadVar 36 (← asAddr t_0)).run prog w = .ok r_27 w ∧ K r_27 w) [(.int .i64 0)] w
theorem B44_eq (c_p0 k_p1 : Value) (w : World) (K : Value → World → Prop) : denFn prog Tryd.f44 T44 [c_p0, k_p1] w K = B44 c_p0 k_p1 w K := by kernel_rfl
theorem c44 {c_p0 k_p1 : Value} {w : World} {K : Value → World → Prop} (h : B44 c_p0 k_p1 w K) : Calls prog 44 #[c_p0, k_p1] w (Ret K) :=
  denFn_calls Tryd.func44 T44_ok (Eq.mpr (B44_eq c_p0 k_p1 w K) h)

-- 84 internal/strconv.small
def T84 : Ann := (.seq .none (.seq (.seq .none (.seq (.seq .none .none) .none)) (.seq .none .none)))
theorem T84_ok : chkFn prog Tryd.f84 T84 = true := by kernel_rfl
def B84 (i_p0 : Value) (w : World) (K : Value → World → Prop) : Prop :=
  pvv prog (binOp .lss 3 i_p0 (.int .i64 10)) w fun t_0 w =>
  cd t_0 (
    pvv prog (binOp .add 3 i_p0 (.int .i64 1)) w fun t_1 w =>
    pvv prog (Instr.sliceAt 9 (.string ⟨#[48, 49, 50, 51, 52, 53, 54, 55, 56, 57, 97, 98, 99, 100, 101, 102, 103, 104, 105, 106, 107, 108, 109, 110, 111, 112, 113, 114, 115, 116, 117, 118, 119, 120, 121, 122]⟩) (some i_p0) (some t_1) none) w fun t_2 w =>
    K t_2 w) <|
  pvv prog (binOp .mul 3 i_p0 (.int .i64 2)) w fun t_3 w =>
  pvv prog (binOp .mul 3 i_p0 (.int .i64 2)) w fun t_4 w =>
  pvv prog (binOp .add 3 t_4 (.int .i64 2)) w fun t_5 w =>
  pvv prog (Instr.sliceAt 9 (.string ⟨#[48, 48, 48, 49, 48, 50, 48, 51, 48, 52, 48, 53, 48, 54, 48, 55, 48, 56, 48, 57, 49, 48, 49, 49, 49, 50, 49, 51, 49, 52, 49, 53, 49, 54, 49, 55, 49, 56, 49, 57, 50, 48, 50, 49, 50, 50, 50, 51, 50, 52, 50, 53, 50, 54, 50, 55, 50, 56, 50, 57, 51, 48, 51, 49, 51, 50, 51, 51, 51, 52, 51, 53, 51, 54, 51, 55, 51, 56, 51, 57, 52, 48, 52, 49, 52, 50, 52, 51, 52, 52, 52, 53, 52, 54, 52, 55, 52, 56, 52, 57, 53, 48, 53, 49, 53, 50, 53, 51, 53, 52, 53, 53, 53, 54, 53, 55, 53, 56, 53, 57, 54, 48, 54, 49, 54, 50, 54, 51, 54, 52, 54, 53, 54, 54, 54, 55, 54, 56, 54, 57, 55, 48, 55, 49, 55, 50, 55, 51, 55, 52, 55, 53, 55, 54, 55, 55, 55, 56, 55, 57, 56, 48, 56, 49, 56, 50, 56, 51, 56, 52, 56, 53, 56, 54, 56, 55, 56, 56, 56, 57, 57, 48, 57, 49, 57, 50, 57, 51, 57, 52, 57, 53, 57, 54, 57, 55, 57, 56, 57, 57]⟩) (some t_3) (some t_5) none) w fun t_6 w =>
  K t_6 w
theorem B84_eq (i_p0 : Value) (w : World) (K : Value → World → Prop) : denFn prog Tryd.f84 T84 [i_p0] w K = B84 i_p0 w K := by kernel_rfl
theorem c84 {i_p0 : Value} {w : World} {K : Value → World → Prop} (h : B84 i_p0 w K) : Calls prog 84 #[i_p0] w (Ret K) :=
  denFn_calls Tryd.func84 T84_ok (Eq.mpr (B84_eq i_p0 w K) h)

-- 76 strings.makeASCIISet
def T76 : Ann := (.seq .none (.seq (.seq .none (.block (.loop 1048568 [4] (.seq (.seq .none (.seq .none .none)) (.seq (.block (.seq .none (.seq (.seq .none (.seq (.seq .none .none) .none)) .none))) .none))))) (.seq .none .none)))
theorem T76_ok : chkFn prog Tryd.f76 T76 = true := by kernel_rfl
def B76 (chars_p0 : Value) (w : World) (K : Value → World → Prop) : Prop :=
  efv prog (Instr.alloc 115 true (.tuple #[])) w fun as_0 w =>
  lp (fun σ w again_2 => pop σ fun i_1 σ => fin σ <|
    pv prog (oBi .len #[9] 3 #[false] #[chars_p0]) w fun t_3 w =>
    pvv prog (binOp .lss 3 i_1 t_3) w fun t_4 w =>
    cd t_4 (
      pvv prog (Instr.index 9 chars_p0 i_1) w fun t_5 w =>
      pvv prog (binOp .geq 5 t_5 (.int .u8 128)) w fun t_6 w =>
      cd t_6 (
        ldv prog (Instr.loadAt 115 as_0) w fun t_7 w =>
        efu prog (Instr.storeAt 115 as_0 t_7) w fun u_8 w =>
        ∃ r_9, (do loadVar 115 (← asAddr as_0)).run prog w = .ok r_9 w ∧ K (.tuple #[r_9, (.bool false)]) w) <|
      pvv prog (Instr.indexAt 115 as_0 t_5) w fun t_10 w =>
      efu prog (Instr.storeAt 4 t_10 (.bool true)) w fun u_11 w =>
      pvv prog (binOp .add 3 i_1 (.int .i64 1)) w fun t_12 w =>
      again_2 [t_12] w) <|
    ldv prog (Instr.loadAt 115 as_0) w fun t_13 w =>
    efu prog (Instr.storeAt 115 as_0 t_13) w fun u_14 w =>
    ∃ r_15, (do loadVar 115 (← asAddr as_0)).run prog w = .ok r_15 w ∧ K (.tuple #[r_15, (.bool true)]) w) [(.int .i64 0)] w
theorem B76_eq (chars_p0 : Value) (w : World) (K : Value → World → Prop) : denFn prog Tryd.f76 T76 [chars_p0] w K = B76 chars_p0 w K := by kernel_rfl
theorem c76 {chars_p0 : Value} {w : World} {K : Value → World → Prop} (h : B76 chars_p0 w K) : Calls prog 76 #[chars_p0] w (Ret K) :=
  denFn_calls Tryd.func76 T76_ok (Eq.mpr (B76_eq chars_p0 w K) h)

-- 34 (*holdfast/holdfastref14.Chain).Anchored
def T34 : Ann := (.seq .none (.seq (.seq .none (.seq (.seq .none .none) .none)) (.seq (.draw [.op 0 .pure, .op 1 .pure, .op 2 .pure, .op 4 .pure, .op 5 .pure, .op 6 .pure, .op 3 .load, .op 8 .pure, .op 7 .load, .op 9 .eff]) .none)))
theorem T34_ok : chkFn prog Tryd.f34 T34 = true := by kernel_rfl
def B34 (c_p0 : Value) (w : World) (K : Value → World → Prop) : Prop :=
  efv prog (Instr.alloc 36 true (.tuple #[])) w fun t_0 w =>
  pvv prog (oEq .eql 25 (.tmp 4) (.const (.pointer none)) c_p0 (.pointer none)) w fun t_1 w =>
  cd t_1 (
    pvv prog (Instr.build 36 #[]) w fun t_2 w =>
    efu prog (Instr.storeAt 36 t_0 t_2) w fun u_3 w =>
    ∃ r_4, (do loadVar 36 (← asAddr t_0)).run prog w = .ok r_4 w ∧ K (.tuple #[(.int .i64 0), r_4]) w) <|
  dr w fun w =>
  pv prog (oNil c_p0) w fun t_5 w =>
  pvv prog (Instr.fieldAt 61 t_5 1) w fun t_6 w =>
  pv prog (oNil c_p0) w fun t_7 w =>
  pvv prog (Instr.fieldAt 61 t_7 4) w fun t_8 w =>
  bindS (vN (Instr.loadAt 3 t_6)) fun m_10 => ldv prog (Instr.loadAt 3 t_6) w fun t_9 w =>
  bindS (vN (Instr.loadAt 36 t_8)) fun m_12 => ldv prog (Instr.loadAt 36 t_8) w fun t_11 w =>
  efu prog (Instr.storeAt 36 t_0 t_11) w fun u_13 w =>
  ∃ r_14, (do loadVar 36 (← asAddr t_0)).run prog w = .ok r_14 w ∧ K (.tuple #[t_9, r_14]) w
theorem B34_eq (c_p0 : Value) (w : World) (K : Value → World → Prop) : denFn prog Tryd.f34 T34 [c_p0] w K = B34 c_p0 w K := by kernel_rfl
theorem c34 {c_p0 : Value} {w : World} {K : Value → World → Prop} (h : B34 c_p0 w K) : Calls prog 34 #[c_p0] w (Ret K) :=
  denFn_calls Tryd.func34 T34_ok (Eq.mpr (B34_eq c_p0 w K) h)

-- 52 holdfast/codec.Number
def T52 : Ann := (.seq .none (.seq (.seq .none (.seq (.seq .none .none) .none)) (.seq .none (.seq .none .none))))
theorem T52_ok : chkFn prog Tryd.f52 T52 = true := by kernel_rfl
def B52 (n_p0 : Value) (w : World) (K : Value → World → Prop) : Prop :=
  pvv prog (binOp .lss 3 n_p0 (.int .i64 0)) w fun t_0 w =>
  gate (some (t_0, false)) (fun K => K n_p0 w) w fun t_1 w =>
  gate (some (t_0, false)) (fun K => pvv prog (binOp .gtr 3 t_1 (.int .i64 4611686018427387904)) w K) w fun t_2 w =>
  pv prog (oPick t_0 (.bool true) t_2) w fun t_3 w =>
  cd t_3 (
    K (.tuple #[(.string ⟨#[]⟩), (.int .i64 2)]) w) <|
  Calls prog 61 #[n_p0, (.int .i64 16)] w (Ret fun t_4 w =>
  Calls prog 60 #[t_4, (.string ⟨#[48]⟩)] w (Ret fun t_5 w =>
  pv prog (oBi .len #[9] 3 #[false] #[t_5]) w fun t_6 w =>
  pvv prog (binOp .add 3 (.int .i64 97) t_6) w fun t_7 w =>
  pvv prog (convert 3 21 t_7) w fun t_8 w =>
  pvv prog (convert 21 9 t_8) w fun t_9 w =>
  pvv prog (binOp .add 9 t_9 t_5) w fun t_10 w =>
  K (.tuple #[t_10, (.int .i64 0)]) w))
theorem B52_eq (n_p0 : Value) (w : World) (K : Value → World → Prop) : denFn prog Tryd.f52 T52 [n_p0] w K = B52 n_p0 w K := by kernel_rfl
theorem c52 {n_p0 : Value} {w : World} {K : Value → World → Prop} (h : B52 n_p0 w K) : Calls prog 52 #[n_p0] w (Ret K) :=
  denFn_calls Tryd.func52 T52_ok (Eq.mpr (B52_eq n_p0 w K) h)

-- 74 strings.trimLeftByte
def T74 : Ann := (.seq .none (.seq (.block (.loop 65505 [0] (.seq (.seq .none (.seq .none .none)) (.block .none)))) (.seq .none .none)))
theorem T74_ok : chkFn prog Tryd.f74 T74 = true := by kernel_rfl
def B74 (s_p0 c_p1 : Value) (w : World) (K : Value → World → Prop) : Prop :=
  lp (fun σ w again_1 => pop σ fun s_0 σ => fin σ <|
    pv prog (oBi .len #[9] 3 #[false] #[s_0]) w fun t_2 w =>
    pvv prog (binOp .gtr 3 t_2 (.int .i64 0)) w fun t_3 w =>
    gate (some (t_3, true)) (fun K => K s_0 w) w fun t_4 w =>
    gate (some (t_3, true)) (fun K => pvv prog (Instr.index 9 t_4 (.int .i64 0)) w K) w fun t_5 w =>
    gate (some (t_3, true)) (fun K => K c_p1 w) w fun t_6 w =>
    gate (some (t_3, true)) (fun K => pvv prog (oEq .eql 5 (.tmp 10) (.tmp 11) t_5 t_6) w K) w fun t_7 w =>
    pv prog (oPick t_3 t_7 (.bool false)) w fun t_8 w =>
    cd t_8 (
      pvv prog (Instr.sliceAt 9 s_0 (some (.int .i64 1)) none none) w fun t_9 w =>
      again_1 [t_9] w) <|
    K s_0 w) [s_p0] w
theorem B74_eq (s_p0 c_p1 : Value) (w : World) (K : Value → World → Prop) : denFn prog Tryd.f74 T74 [s_p0, c_p1] w K = B74 s_p0 c_p1 w K := by kernel_rfl
theorem c74 {s_p0 c_p1 : Value} {w : World} {K : Value → World → Prop} (h : B74 s_p0 c_p1 w K) : Calls prog 74 #[s_p0, c_p1] w (Ret K) :=
  denFn_calls Tryd.func74 T74_ok (Eq.mpr (B74_eq s_p0 c_p1 w K) h)

-- 54 holdfast/holdfastref07.bytesOf
def T54 : Ann := (.seq .none (.seq .none (.seq (.seq .none (.block (.loop 32760 [3, 4] (.seq (.seq .none (.seq .none .none)) (.seq (.block .none) .none))))) (.seq .none .none))))
theorem T54_ok : chkFn prog Tryd.f54 T54 = true := by kernel_rfl
def B54 (h_p0 : Value) (w : World) (K : Value → World → Prop) : Prop :=
  efv prog (Instr.box 36 h_p0) w fun h_0 w =>
  lp (fun σ w again_3 => pop σ fun out_1 σ => pop σ fun i_2 σ => fin σ <|
    pvv prog (binOp .lss 3 i_2 (.int .i64 32)) w fun t_4 w =>
    cd t_4 (
      pvv prog (Instr.indexAt 36 h_0 i_2) w fun t_5 w =>
      ldv prog (Instr.loadAt 5 t_5) w fun t_6 w =>
      efv prog (Instr.buildSlice 72 1 #[(0, t_6)]) w fun t_7 w =>
      ef prog (oBi .append #[72, 72] 72 #[false, false] #[out_1, t_7]) w fun t_8 w =>
      pvv prog (binOp .add 3 i_2 (.int .i64 1)) w fun t_9 w =>
      again_3 [t_8, t_9] w) <|
    K out_1 w) [(.slice none 0 0), (.int .i64 0)] w
theorem B54_eq (h_p0 : Value) (w : World) (K : Value → World → Prop) : denFn prog Tryd.f54 T54 [h_p0] w K = B54 h_p0 w K := by kernel_rfl
theorem c54 {h_p0 : Value} {w : World} {K : Value → World → Prop} (h : B54 h_p0 w K) : Calls prog 54 #[h_p0] w (Ret K) :=
  denFn_calls Tryd.func54 T54_ok (Eq.mpr (B54_eq h_p0 w K) h)

-- 35 (*holdfast/holdfastref14.Chain).Head
def T35 : Ann := (.seq .none (.seq (.seq .none (.seq (.seq .none .none) .none)) (.seq .none .none)))
theorem T35_ok : chkFn prog Tryd.f35 T35 = true := by kernel_rfl
def B35 (c_p0 : Value) (w : World) (K : Value → World → Prop) : Prop :=
  efv prog (Instr.alloc 36 true (.tuple #[])) w fun t_0 w =>
  pvv prog (oEq .eql 25 (.tmp 3) (.const (.pointer none)) c_p0 (.pointer none)) w fun t_1 w =>
  cd t_1 (
    pvv prog (Instr.build 36 #[]) w fun t_2 w =>
    efu prog (Instr.storeAt 36 t_0 t_2) w fun u_3 w =>
    ∃ r_4, (do loadVar 36 (← asAddr t_0)).run prog w = .ok r_4 w ∧ K r_4 w) <|
  pv prog (oNil c_p0) w fun t_5 w =>
  pvv prog (Instr.fieldAt 61 t_5 5) w fun t_6 w =>
  ldv prog (Instr.loadAt 36 t_6) w fun t_7 w =>
  efu prog (Instr.storeAt 36 t_0 t_7) w fun u_8 w =>
  ∃ r_9, (do loadVar 36 (← asAddr t_0)).run prog w = .ok r_9 w ∧ K r_9 w
theorem B35_eq (c_p0 : Value) (w : World) (K : Value → World → Prop) : denFn prog Tryd.f35 T35 [c_p0] w K = B35 c_p0 w K := by kernel_rfl
theorem c35 {c_p0 : Value} {w : World} {K : Value → World → Prop} (h : B35 c_p0 w K) : Calls prog 35 #[c_p0] w (Ret K) :=
  denFn_calls Tryd.func35 T35_ok (Eq.mpr (B35_eq c_p0 w K) h)

-- 94 strconv.syntaxError
def T94 : Ann := (.seq .none (.seq (.draw [.op 0 .pure, .op 1 .pure, .op 3 .load, .op 2 .eff, .op 4 .pure, .op 5 .eff, .op 6 .pure]) .none))
theorem T94_ok : chkFn prog Tryd.f94 T94 = true := by kernel_rfl
def B94 (fn_p0 str_p1 : Value) (w : World) (K : Value → World → Prop) : Prop :=
  dr w fun w =>
  bindS (vN (Instr.loadAt 98 (.pointer (some ⟨1, 0, none⟩)))) fun m_1 => ldv prog (Instr.loadAt 98 (.pointer (some ⟨1, 0, none⟩))) w fun t_0 w =>
  Calls prog 106 #[str_p1] w (Ret fun t_2 w => stay prog none m_1 t_0 w <| 
  pvv prog (Instr.build 146 #[(0, fn_p0), (1, t_2), (2, t_0)]) w fun t_3 w =>
  efv prog (Instr.box 146 t_3) w fun t_4 w => stay prog none m_1 t_0 w <| 
  K t_4 w)
theorem B94_eq (fn_p0 str_p1 : Value) (w : World) (K : Value → World → Prop) : denFn prog Tryd.f94 T94 [fn_p0, str_p1] w K = B94 fn_p0 str_p1 w K := by kernel_rfl
theorem c94 {fn_p0 str_p1 : Value} {w : World} {K : Value → World → Prop} (h : B94 fn_p0 str_p1 w K) : Calls prog 94 #[fn_p0, str_p1] w (Ret K) :=
  denFn_calls Tryd.func94 T94_ok (Eq.mpr (B94_eq fn_p0 str_p1 w K) h)

-- 33 (*holdfast/holdfastref14.Chain).Events
def T33 : Ann := (.seq .none (.seq .none (.meet 4088 [3] (.seq .none (.seq .none .none)) (.seq .none .none))))
theorem T33_ok : chkFn prog Tryd.f33 T33 = true := by kernel_rfl
def B33 (c_p0 : Value) (w : World) (K : Value → World → Prop) : Prop :=
  jn (fun σ w => pop σ fun out_0 σ => fin σ <|
    K out_0 w) fun k_1 =>
  pvv prog (oEq .neq 25 (.tmp 4) (.const (.pointer none)) c_p0 (.pointer none)) w fun t_2 w =>
  cd t_2 (
    pv prog (oNil c_p0) w fun t_3 w =>
    pvv prog (Instr.fieldAt 61 t_3 6) w fun t_4 w =>
    ldv prog (Instr.loadAt 31 t_4) w fun t_5 w =>
    ef prog (oBi .append #[31, 31] 31 #[false, false] #[(.slice none 0 0), t_5]) w fun t_6 w =>
    k_1 [t_6] w) <|
  k_1 [(.slice none 0 0)] w
theorem B33_eq (c_p0 : Value) (w : World) (K : Value → World → Prop) : denFn prog Tryd.f33 T33 [c_p0] w K = B33 c_p0 w K := by kernel_rfl
theorem c33 {c_p0 : Value} {w : World} {K : Value → World → Prop} (h : B33 c_p0 w K) : Calls prog 33 #[c_p0] w (Ret K) :=
  denFn_calls Tryd.func33 T33_ok (Eq.mpr (B33_eq c_p0 w K) h)

-- 85 internal/strconv.numDigits
def T85 : Ann := (.seq .none (.seq .none (.seq .none .none)))
theorem T85_ok : chkFn prog Tryd.f85 T85 = true := by kernel_rfl
def B85 (d_p0 : Value) (w : World) (K : Value → World → Prop) : Prop :=
  Calls prog 99 #[d_p0] w (Ret fun t_0 w =>
  Calls prog 98 #[t_0] w (Ret fun t_1 w =>
  pvv prog (Instr.indexAt 139 (.pointer (some ⟨0, 0, none⟩)) t_1) w fun t_2 w =>
  ldv prog (Instr.loadAt 96 t_2) w fun t_3 w =>
  pvv prog (binOp .geq 96 d_p0 t_3) w fun t_4 w =>
  Calls prog 100 #[t_4] w (Ret fun t_5 w =>
  pvv prog (binOp .add 3 t_1 t_5) w fun t_6 w =>
  K t_6 w)))
theorem B85_eq (d_p0 : Value) (w : World) (K : Value → World → Prop) : denFn prog Tryd.f85 T85 [d_p0] w K = B85 d_p0 w K := by kernel_rfl
theorem c85 {d_p0 : Value} {w : World} {K : Value → World → Prop} (h : B85 d_p0 w K) : Calls prog 85 #[d_p0] w (Ret K) :=
  denFn_calls Tryd.func85 T85_ok (Eq.mpr (B85_eq d_p0 w K) h)

-- 69 bytes.Clone
def T69 : Ann := (.seq .none (.seq (.seq .none (.seq (.seq .none .none) .none)) (.seq .none .none)))
theorem T69_ok : chkFn prog Tryd.f69 T69 = true := by kernel_rfl
def B69 (b_p0 : Value) (w : World) (K : Value → World → Prop) : Prop :=
  pvv prog (oEq .eql 72 (.tmp 3) (.const (.slice none 0 0)) b_p0 (.slice none 0 0)) w fun t_0 w =>
  cd t_0 (
    K (.slice none 0 0) w) <|
  efv prog (Instr.buildSlice 72 0 #[]) w fun t_1 w =>
  ef prog (oBi .append #[72, 72] 72 #[false, false] #[t_1, b_p0]) w fun t_2 w =>
  K t_2 w
theorem B69_eq (b_p0 : Value) (w : World) (K : Value → World → Prop) : denFn prog Tryd.f69 T69 [b_p0] w K = B69 b_p0 w K := by kernel_rfl
theorem c69 {b_p0 : Value} {w : World} {K : Value → World → Prop} (h : B69 b_p0 w K) : Calls prog 69 #[b_p0] w (Ret K) :=
  denFn_calls Tryd.func69 T69_ok (Eq.mpr (B69_eq b_p0 w K) h)

-- 102 math/bits.TrailingZeros
def T102 : Ann := (.seq .none (.seq (.seq (.seq .none .none) .none) (.seq .none .none)))
theorem T102_ok : chkFn prog Tryd.f102 T102 = true := by kernel_rfl
def B102 (x_p0 : Value) (w : World) (K : Value → World → Prop) : Prop :=
  cd (.bool false) (
    pvv prog (convert 104 101 x_p0) w fun t_0 w =>
    Calls prog 109 #[t_0] w (Ret fun t_1 w =>
    K t_1 w)) <|
  Calls prog 110 #[x_p0] w (Ret fun t_2 w =>
  K t_2 w)
theorem B102_eq (x_p0 : Value) (w : World) (K : Value → World → Prop) : denFn prog Tryd.f102 T102 [x_p0] w K = B102 x_p0 w K := by kernel_rfl
theorem c102 {x_p0 : Value} {w : World} {K : Value → World → Prop} (h : B102 x_p0 w K) : Calls prog 102 #[x_p0] w (Ret K) :=
  denFn_calls Tryd.func102 T102_ok (Eq.mpr (B102_eq x_p0 w K) h)

-- 105 unicode/utf8.RuneStart
def T105 : Ann := (.seq .none (.seq .none .none))
theorem T105_ok : chkFn prog Tryd.f105 T105 = true := by kernel_rfl
def B105 (b_p0 : Value) (w : World) (K : Value → World → Prop) : Prop :=
  pvv prog (binOp .and 5 b_p0 (.int .u8 192)) w fun t_0 w =>
  pvv prog (oEq .neq 5 (.tmp 4) (.const (.int .u8 128)) t_0 (.int .u8 128)) w fun t_1 w =>
  K t_1 w
theorem B105_eq (b_p0 : Value) (w : World) (K : Value → World → Prop) : denFn prog Tryd.f105 T105 [b_p0] w K = B105 b_p0 w K := by kernel_rfl
theorem c105 {b_p0 : Value} {w : World} {K : Value → World → Prop} (h : B105 b_p0 w K) : Calls prog 105 #[b_p0] w (Ret K) :=
  denFn_calls Tryd.func105 T105_ok (Eq.mpr (B105_eq b_p0 w K) h)

-- 116 internal/stringslite.IndexByte
def T116 : Ann := (.seq .none (.seq .none .none))
theorem T116_ok : chkFn prog Tryd.f116 T116 = true := by kernel_rfl
def B116 (s_p0 c_p1 : Value) (w : World) (K : Value → World → Prop) : Prop :=
  ef prog (oCall (.func (.func 117) #[] #[]) #[s_p0, c_p1]) w fun t_0 w =>
  K t_0 w
theorem B116_eq (s_p0 c_p1 : Value) (w : World) (K : Value → World → Prop) : denFn prog Tryd.f116 T116 [s_p0, c_p1] w K = B116 s_p0 c_p1 w K := by kernel_rfl
theorem c116 {s_p0 c_p1 : Value} {w : World} {K : Value → World → Prop} (h : B116 s_p0 c_p1 w K) : Calls prog 116 #[s_p0, c_p1] w (Ret K) :=
  denFn_calls Tryd.func116 T116_ok (Eq.mpr (B116_eq s_p0 c_p1 w K) h)

-- 60 strings.TrimPrefix
def T60 : Ann := (.seq .none (.seq .none .none))
theorem T60_ok : chkFn prog Tryd.f60 T60 = true := by kernel_rfl
def B60 (s_p0 prefix_p1 : Value) (w : World) (K : Value → World → Prop) : Prop :=
  Calls prog 71 #[s_p0, prefix_p1] w (Ret fun t_0 w =>
  K t_0 w)
theorem B60_eq (s_p0 prefix_p1 : Value) (w : World) (K : Value → World → Prop) : denFn prog Tryd.f60 T60 [s_p0, prefix_p1] w K = B60 s_p0 prefix_p1 w K := by kernel_rfl
theorem c60 {s_p0 prefix_p1 : Value} {w : World} {K : Value → World → Prop} (h : B60 s_p0 prefix_p1 w K) : Calls prog 60 #[s_p0, prefix_p1] w (Ret K) :=
  denFn_calls Tryd.func60 T60_ok (Eq.mpr (B60_eq s_p0 prefix_p1 w K) h)

-- 100 internal/strconv.bool2[int]
def T100 : Ann := (.seq .none (.seq (.seq .none (.seq (.seq .none .none) .none)) (.seq .none .none)))
theorem T100_ok : chkFn prog Tryd.f100 T100 = true := by kernel_rfl
def B100 (b_p0 : Value) (w : World) (K : Value → World → Prop) : Prop :=
  cd b_p0 (
    K (.int .i64 1) w) <|
  K (.int .i64 0) w
theorem B100_eq (b_p0 : Value) (w : World) (K : Value → World → Prop) : denFn prog Tryd.f100 T100 [b_p0] w K = B100 b_p0 w K := by kernel_rfl
theorem c100 {b_p0 : Value} {w : World} {K : Value → World → Prop} (h : B100 b_p0 w K) : Calls prog 100 #[b_p0] w (Ret K) :=
  denFn_calls Tryd.func100 T100_ok (Eq.mpr (B100_eq b_p0 w K) h)

-- 10 holdfast/holdfastref14.New
def T10 : Ann := (.seq .none (.seq .none .none))
theorem T10_ok : chkFn prog Tryd.f10 T10 = true := by kernel_rfl
def B10 (w : World) (K : Value → World → Prop) : Prop :=
  pvv prog (Instr.build 61 #[]) w fun t_0 w =>
  efv prog (Instr.box 61 t_0) w fun t_1 w =>
  K t_1 w
theorem B10_eq (w : World) (K : Value → World → Prop) : denFn prog Tryd.f10 T10 [] w K = B10  w K := by kernel_rfl
theorem c10 {w : World} {K : Value → World → Prop} (h : B10  w K) : Calls prog 10 #[] w (Ret K) :=
  denFn_calls Tryd.func10 T10_ok (Eq.mpr (B10_eq  w K) h)

-- 9 holdfast/audit.New
def T9 : Ann := (.seq .none (.seq .none .none))
theorem T9_ok : chkFn prog Tryd.f9 T9 = true := by kernel_rfl
def B9 (w : World) (K : Value → World → Prop) : Prop :=
  pvv prog (Instr.build 59 #[]) w fun t_0 w =>
  efv prog (Instr.box 59 t_0) w fun t_1 w =>
  K t_1 w
theorem B9_eq (w : World) (K : Value → World → Prop) : denFn prog Tryd.f9 T9 [] w K = B9  w K := by kernel_rfl
theorem c9 {w : World} {K : Value → World → Prop} (h : B9  w K) : Calls prog 9 #[] w (Ret K) :=
  denFn_calls Tryd.func9 T9_ok (Eq.mpr (B9_eq  w K) h)


end Go.Proofs.YtjeiojibnmfibaaDoor
