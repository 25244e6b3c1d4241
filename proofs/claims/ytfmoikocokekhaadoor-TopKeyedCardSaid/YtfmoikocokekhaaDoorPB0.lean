import Derived.Test.YtfmoikocokekhaaDoorPI
set_option linter.all false
set_option maxRecDepth 100000
namespace Go.Proofs.YtfmoikocokekhaaDoor
open Go Hold
-- 15 (holdfast/hash.words).mix
def T15 : Ann := (.seq .none (.seq .none (.seq (.seq .none (.block (.loop 324518553658426726783156020315904 [18] (.seq .none (.seq (.seq .none .none) (.meet 162259276829213363391578009241344 [] (.block (.seq .none (.seq (.seq .none (.seq (.seq (.draw [.op 0 .pure, .op 1 .pure, .op 2 .pure, .op 3 .pure, .op 4 .pure, .op 8 .pure, .op 9 .pure, .op 10 .pure, .op 11 .pure, .op 12 .pure, .op 17 .pure, .op 18 .pure, .op 19 .pure, .op 20 .pure, .op 21 .pure, .op 26 .pure, .op 27 .pure, .op 28 .pure, .op 29 .pure, .op 30 .pure, .op 5 .load, .op 6 .pure, .op 7 .pure, .op 13 .load, .op 14 .pure, .op 15 .pure, .op 16 .pure, .op 22 .load, .op 23 .pure, .op 24 .pure, .op 25 .pure, .op 31 .load, .op 32 .pure, .op 33 .pure, .op 34 .pure, .op 35 .eff]) .none) .none)) (.seq (.draw [.op 0 .pure, .op 1 .pure, .op 2 .pure, .op 5 .pure, .op 6 .pure, .op 7 .pure, .op 11 .pure, .op 12 .pure, .op 13 .pure, .op 3 .load, .op 8 .load, .op 14 .load, .op 15 .pure, .op 4 .eff, .op 9 .eff, .op 10 .pure, .op 16 .pure, .op 17 .pure]) (.seq (.draw [.op 0 .pure, .op 1 .pure, .op 2 .pure, .op 5 .pure, .op 6 .pure, .op 7 .pure, .op 11 .pure, .op 12 .pure, .op 13 .pure, .op 3 .load, .op 8 .load, .op 14 .load, .op 15 .pure, .op 4 .eff, .op 9 .eff, .op 10 .pure, .op 16 .pure, .op 17 .pure]) (.draw [.op 0 .pure, .op 1 .pure, .op 2 .pure, .op 3 .pure, .op 5 .pure, .op 7 .pure, .op 8 .pure, .op 9 .pure, .op 12 .pure, .op 4 .load, .op 6 .pure, .op 10 .load, .op 11 .pure, .op 13 .pure, .op 14 .pure, .op 15 .eff])))))) .none)))))) (.seq .none (.seq (.seq .none (.block (.loop 784637716923335095479473028863850985159340864245963288576 [109] (.seq .none (.seq (.seq .none .none) (.seq (.block (.seq .none (.seq (.draw [.op 0 .pure, .op 3 .pure, .op 7 .pure, .op 1 .load, .op 4 .load, .op 8 .load, .op 2 .eff, .op 5 .eff, .op 6 .pure, .op 9 .eff, .op 10 .pure, .op 11 .pure]) (.seq (.draw [.op 0 .pure, .op 2 .pure, .op 4 .pure, .op 6 .pure, .op 8 .pure, .op 10 .pure, .op 16 .pure, .op 17 .pure, .op 18 .pure, .op 19 .pure, .op 22 .pure, .op 23 .pure, .op 1 .load, .op 3 .pure, .op 5 .load, .op 7 .load, .op 9 .load, .op 11 .load, .op 12 .pure, .op 13 .pure, .op 14 .pure, .op 15 .pure, .op 20 .load, .op 21 .pure, .op 24 .load, .op 25 .pure, .op 26 .pure]) (.seq (.draw [.op 0 .pure, .op 3 .pure, .op 7 .pure, .op 1 .load, .op 4 .load, .op 8 .load, .op 2 .eff, .op 5 .eff, .op 6 .pure, .op 9 .eff, .op 10 .pure, .op 11 .pure]) (.seq .none (.seq (.draw [.op 0 .pure, .op 1 .pure, .op 2 .eff]) (.seq .none .none)))))))) .none)))))) (.seq (.seq .none (.block (.loop 3213091450801057215988444711004424246742393193135027666419712 [189] (.seq .none (.seq (.seq .none .none) (.seq (.block (.seq .none (.draw [.op 0 .pure, .op 1 .pure, .op 3 .pure, .op 4 .pure, .op 2 .load, .op 5 .load, .op 6 .pure, .op 7 .pure, .op 8 .eff]))) .none)))))) (.seq .none .none)))))))
theorem T15_ok : chkFn prog Tryd.f15 T15 = true := by kernel_rfl
def B15 (h_p0 k_p1 b_p2 : Value) (w : World) (K : Value → World → Prop) : Prop :=
  efv prog (Instr.box 52 h_p0) w fun h_0 w =>
  efv prog (Instr.alloc 52 true (.tuple #[])) w fun t_1 w =>
  efv prog (Instr.alloc 66 true (.tuple #[])) w fun w_2 w =>
  lp (fun σ w again_4 => pop σ fun t_3 σ => fin σ <|
    pvv prog (binOp .lss 3 t_3 (.int .i64 64)) w fun t_5 w =>
    cd t_5 (
      jn (fun σ w => fin σ <|
        pvv prog (binOp .add 3 t_3 (.int .i64 1)) w fun t_6 w =>
        again_4 [t_6] w) fun k_7 =>
      pvv prog (binOp .lss 3 t_3 (.int .i64 16)) w fun t_8 w =>
      cd t_8 (
        dr w fun w =>
        pvv prog (binOp .mul 3 (.int .i64 4) t_3) w fun t_9 w =>
        pvv prog (Instr.indexAt 25 b_p2 t_9) w fun t_10 w =>
        pvv prog (binOp .mul 3 (.int .i64 4) t_3) w fun t_11 w =>
        pvv prog (binOp .add 3 t_11 (.int .i64 1)) w fun t_12 w =>
        pvv prog (Instr.indexAt 25 b_p2 t_12) w fun t_13 w =>
        pvv prog (binOp .mul 3 (.int .i64 4) t_3) w fun t_14 w =>
        pvv prog (binOp .add 3 t_14 (.int .i64 2)) w fun t_15 w =>
        pvv prog (Instr.indexAt 25 b_p2 t_15) w fun t_16 w =>
        pvv prog (binOp .mul 3 (.int .i64 4) t_3) w fun t_17 w =>
        pvv prog (binOp .add 3 t_17 (.int .i64 3)) w fun t_18 w =>
        pvv prog (Instr.indexAt 25 b_p2 t_18) w fun t_19 w =>
        bindS (vN (Instr.loadAt 5 t_10)) fun m_21 => ldv prog (Instr.loadAt 5 t_10) w fun t_20 w =>
        pvv prog (convert 5 50 t_20) w fun t_22 w =>
        pvv prog (binOp .shl 50 t_22 (.int .u64 24)) w fun t_23 w =>
        bindS (vN (Instr.loadAt 5 t_13)) fun m_25 => ldv prog (Instr.loadAt 5 t_13) w fun t_24 w =>
        pvv prog (convert 5 50 t_24) w fun t_26 w =>
        pvv prog (binOp .shl 50 t_26 (.int .u64 16)) w fun t_27 w =>
        pvv prog (binOp .or 50 t_23 t_27) w fun t_28 w =>
        bindS (vN (Instr.loadAt 5 t_16)) fun m_30 => ldv prog (Instr.loadAt 5 t_16) w fun t_29 w =>
        pvv prog (convert 5 50 t_29) w fun t_31 w =>
        pvv prog (binOp .shl 50 t_31 (.int .u64 8)) w fun t_32 w =>
        pvv prog (binOp .or 50 t_28 t_32) w fun t_33 w =>
        bindS (vN (Instr.loadAt 5 t_19)) fun m_35 => ldv prog (Instr.loadAt 5 t_19) w fun t_34 w =>
        pvv prog (convert 5 50 t_34) w fun t_36 w =>
        pvv prog (binOp .or 50 t_33 t_36) w fun t_37 w =>
        pvv prog (Instr.indexAt 66 w_2 t_3) w fun t_38 w =>
        efu prog (Instr.storeAt 50 t_38 t_37) w fun u_39 w =>
        k_7 [] w) <|
      dr w fun w =>
      pvv prog (binOp .sub 3 t_3 (.int .i64 15)) w fun t_41 w =>
      pvv prog (Instr.indexAt 66 w_2 t_41) w fun t_42 w =>
      pvv prog (binOp .sub 3 t_3 (.int .i64 15)) w fun t_43 w =>
      pvv prog (Instr.indexAt 66 w_2 t_43) w fun t_44 w =>
      pvv prog (binOp .sub 3 t_3 (.int .i64 15)) w fun t_45 w =>
      pvv prog (Instr.indexAt 66 w_2 t_45) w fun t_46 w =>
      bindS (vN (Instr.loadAt 50 t_42)) fun m_48 => ldv prog (Instr.loadAt 50 t_42) w fun t_47 w =>
      bindS (vN (Instr.loadAt 50 t_44)) fun m_50 => ldv prog (Instr.loadAt 50 t_44) w fun t_49 w =>
      bindS (vN (Instr.loadAt 50 t_46)) fun m_52 => ldv prog (Instr.loadAt 50 t_46) w fun t_51 w =>
      pvv prog (binOp .shr 50 t_51 (.int .u64 3)) w fun t_53 w =>
      Calls prog 23 #[t_47, (.int .i64 (-7))] w (Ret fun t_54 w => stay prog none m_52 t_51 w <| stay prog none m_50 t_49 w <| 
      Calls prog 23 #[t_49, (.int .i64 (-18))] w (Ret fun t_55 w => stay prog none m_52 t_51 w <| stay prog none m_48 t_47 w <| 
      pvv prog (binOp .xor 50 t_54 t_55) w fun t_56 w =>
      pvv prog (binOp .xor 50 t_56 t_53) w fun t_57 w =>
      dr w fun w =>
      pvv prog (binOp .sub 3 t_3 (.int .i64 2)) w fun t_58 w =>
      pvv prog (Instr.indexAt 66 w_2 t_58) w fun t_59 w =>
      pvv prog (binOp .sub 3 t_3 (.int .i64 2)) w fun t_60 w =>
      pvv prog (Instr.indexAt 66 w_2 t_60) w fun t_61 w =>
      pvv prog (binOp .sub 3 t_3 (.int .i64 2)) w fun t_62 w =>
      pvv prog (Instr.indexAt 66 w_2 t_62) w fun t_63 w =>
      bindS (vN (Instr.loadAt 50 t_59)) fun m_65 => ldv prog (Instr.loadAt 50 t_59) w fun t_64 w =>
      bindS (vN (Instr.loadAt 50 t_61)) fun m_67 => ldv prog (Instr.loadAt 50 t_61) w fun t_66 w =>
      bindS (vN (Instr.loadAt 50 t_63)) fun m_69 => ldv prog (Instr.loadAt 50 t_63) w fun t_68 w =>
      pvv prog (binOp .shr 50 t_68 (.int .u64 10)) w fun t_70 w =>
      Calls prog 23 #[t_64, (.int .i64 (-17))] w (Ret fun t_71 w => stay prog none m_69 t_68 w <| stay prog none m_67 t_66 w <| 
      Calls prog 23 #[t_66, (.int .i64 (-19))] w (Ret fun t_72 w => stay prog none m_69 t_68 w <| stay prog none m_65 t_64 w <| 
      pvv prog (binOp .xor 50 t_71 t_72) w fun t_73 w =>
      pvv prog (binOp .xor 50 t_73 t_70) w fun t_74 w =>
      dr w fun w =>
      pvv prog (binOp .sub 3 t_3 (.int .i64 16)) w fun t_75 w =>
      pvv prog (Instr.indexAt 66 w_2 t_75) w fun t_76 w =>
      pvv prog (binOp .sub 3 t_3 (.int .i64 7)) w fun t_77 w =>
      pvv prog (Instr.indexAt 66 w_2 t_77) w fun t_78 w =>
      bindS (vN (Instr.loadAt 50 t_76)) fun m_80 => ldv prog (Instr.loadAt 50 t_76) w fun t_79 w =>
      pvv prog (binOp .add 50 t_79 t_57) w fun t_81 w =>
      bindS (vN (Instr.loadAt 50 t_78)) fun m_83 => ldv prog (Instr.loadAt 50 t_78) w fun t_82 w =>
      pvv prog (binOp .add 50 t_81 t_82) w fun t_84 w =>
      pvv prog (binOp .add 50 t_84 t_74) w fun t_85 w =>
      pvv prog (Instr.indexAt 66 w_2 t_3) w fun t_86 w =>
      efu prog (Instr.storeAt 50 t_86 t_85) w fun u_87 w =>
      k_7 [] w))))) <|
    ldv prog (Instr.loadAt 52 h_0) w fun t_93 w =>
    efv prog (Instr.alloc 52 true (.tuple #[])) w fun v_94 w =>
    efu prog (Instr.storeAt 52 v_94 t_93) w fun u_95 w =>
    lp (fun σ w again_97 => pop σ fun t_96 σ => fin σ <|
      pvv prog (binOp .lss 3 t_96 (.int .i64 64)) w fun t_98 w =>
      cd t_98 (
        dr w fun w =>
        pvv prog (Instr.indexAt 52 v_94 (.int .i64 4)) w fun t_99 w =>
        pvv prog (Instr.indexAt 52 v_94 (.int .i64 4)) w fun t_100 w =>
        pvv prog (Instr.indexAt 52 v_94 (.int .i64 4)) w fun t_101 w =>
        bindS (vN (Instr.loadAt 50 t_99)) fun m_103 => ldv prog (Instr.loadAt 50 t_99) w fun t_102 w =>
        bindS (vN (Instr.loadAt 50 t_100)) fun m_105 => ldv prog (Instr.loadAt 50 t_100) w fun t_104 w =>
        bindS (vN (Instr.loadAt 50 t_101)) fun m_107 => ldv prog (Instr.loadAt 50 t_101) w fun t_106 w =>
        Calls prog 23 #[t_102, (.int .i64 (-6))] w (Ret fun t_108 w => stay prog none m_107 t_106 w <| stay prog none m_105 t_104 w <| 
        Calls prog 23 #[t_104, (.int .i64 (-11))] w (Ret fun t_109 w => stay prog none m_107 t_106 w <| stay prog none m_103 t_102 w <| 
        pvv prog (binOp .xor 50 t_108 t_109) w fun t_110 w =>
        Calls prog 23 #[t_106, (.int .i64 (-25))] w (Ret fun t_111 w => stay prog none m_105 t_104 w <| stay prog none m_103 t_102 w <| 
        pvv prog (binOp .xor 50 t_110 t_111) w fun t_112 w =>
        dr w fun w =>
        pvv prog (Instr.indexAt 52 v_94 (.int .i64 7)) w fun t_113 w =>
        pvv prog (Instr.indexAt 52 v_94 (.int .i64 6)) w fun t_114 w =>
        pvv prog (Instr.indexAt 52 v_94 (.int .i64 4)) w fun t_115 w =>
        pvv prog (Instr.indexAt 52 v_94 (.int .i64 5)) w fun t_116 w =>
        pvv prog (Instr.indexAt 52 v_94 (.int .i64 6)) w fun t_117 w =>
        pv prog (oNil k_p1) w fun t_118 w =>
        pvv prog (Instr.indexAt 66 t_118 t_96) w fun t_119 w =>
        pvv prog (Instr.indexAt 66 w_2 t_96) w fun t_120 w =>
        bindS (vN (Instr.loadAt 50 t_113)) fun m_122 => ldv prog (Instr.loadAt 50 t_113) w fun t_121 w =>
        pvv prog (binOp .add 50 t_121 t_112) w fun t_123 w =>
        bindS (vN (Instr.loadAt 50 t_114)) fun m_125 => ldv prog (Instr.loadAt 50 t_114) w fun t_124 w =>
        bindS (vN (Instr.loadAt 50 t_115)) fun m_127 => ldv prog (Instr.loadAt 50 t_115) w fun t_126 w =>
        bindS (vN (Instr.loadAt 50 t_116)) fun m_129 => ldv prog (Instr.loadAt 50 t_116) w fun t_128 w =>
        bindS (vN (Instr.loadAt 50 t_117)) fun m_131 => ldv prog (Instr.loadAt 50 t_117) w fun t_130 w =>
        pvv prog (binOp .xor 50 t_128 t_130) w fun t_132 w =>
        pvv prog (binOp .and 50 t_126 t_132) w fun t_133 w =>
        pvv prog (binOp .xor 50 t_124 t_133) w fun t_134 w =>
        pvv prog (binOp .add 50 t_123 t_134) w fun t_135 w =>
        bindS (vN (Instr.loadAt 50 t_119)) fun m_137 => ldv prog (Instr.loadAt 50 t_119) w fun t_136 w =>
        pvv prog (binOp .add 50 t_135 t_136) w fun t_138 w =>
        bindS (vN (Instr.loadAt 50 t_120)) fun m_140 => ldv prog (Instr.loadAt 50 t_120) w fun t_139 w =>
        pvv prog (binOp .add 50 t_138 t_139) w fun t_141 w =>
        dr w fun w =>
        pvv prog (Instr.indexAt 52 v_94 (.int .i64 0)) w fun t_142 w =>
        pvv prog (Instr.indexAt 52 v_94 (.int .i64 0)) w fun t_143 w =>
        pvv prog (Instr.indexAt 52 v_94 (.int .i64 0)) w fun t_144 w =>
        bindS (vN (Instr.loadAt 50 t_142)) fun m_146 => ldv prog (Instr.loadAt 50 t_142) w fun t_145 w =>
        bindS (vN (Instr.loadAt 50 t_143)) fun m_148 => ldv prog (Instr.loadAt 50 t_143) w fun t_147 w =>
        bindS (vN (Instr.loadAt 50 t_144)) fun m_150 => ldv prog (Instr.loadAt 50 t_144) w fun t_149 w =>
        Calls prog 23 #[t_145, (.int .i64 (-2))] w (Ret fun t_151 w => stay prog none m_150 t_149 w <| stay prog none m_148 t_147 w <| 
        Calls prog 23 #[t_147, (.int .i64 (-13))] w (Ret fun t_152 w => stay prog none m_150 t_149 w <| stay prog none m_146 t_145 w <| 
        pvv prog (binOp .xor 50 t_151 t_152) w fun t_153 w =>
        Calls prog 23 #[t_149, (.int .i64 (-22))] w (Ret fun t_154 w => stay prog none m_148 t_147 w <| stay prog none m_146 t_145 w <| 
        pvv prog (binOp .xor 50 t_153 t_154) w fun t_155 w =>
        pvv prog (Instr.indexAt 52 v_94 (.int .i64 0)) w fun t_156 w =>
        ldv prog (Instr.loadAt 50 t_156) w fun t_157 w =>
        pvv prog (Instr.indexAt 52 v_94 (.int .i64 1)) w fun t_158 w =>
        ldv prog (Instr.loadAt 50 t_158) w fun t_159 w =>
        pvv prog (binOp .and 50 t_157 t_159) w fun t_160 w =>
        pvv prog (Instr.indexAt 52 v_94 (.int .i64 2)) w fun t_161 w =>
        ldv prog (Instr.loadAt 50 t_161) w fun t_162 w =>
        pvv prog (Instr.indexAt 52 v_94 (.int .i64 0)) w fun t_163 w =>
        ldv prog (Instr.loadAt 50 t_163) w fun t_164 w =>
        pvv prog (Instr.indexAt 52 v_94 (.int .i64 1)) w fun t_165 w =>
        ldv prog (Instr.loadAt 50 t_165) w fun t_166 w =>
        pvv prog (binOp .or 50 t_164 t_166) w fun t_167 w =>
        pvv prog (binOp .and 50 t_162 t_167) w fun t_168 w =>
        pvv prog (binOp .or 50 t_160 t_168) w fun t_169 w =>
        pvv prog (binOp .add 50 t_155 t_169) w fun t_170 w =>
        dr w fun w =>
        pvv prog (Instr.sliceAt 52 v_94 (some (.int .i64 1)) none none) w fun t_171 w =>
        pvv prog (Instr.sliceAt 52 v_94 none (some (.int .i64 7)) none) w fun t_172 w =>
        ef prog (oBi .copy #[68, 68] 3 #[false, false] #[t_171, t_172]) w fun t_173 w =>
        pvv prog (Instr.indexAt 52 v_94 (.int .i64 4)) w fun t_174 w =>
        ldv prog (Instr.loadAt 50 t_174) w fun t_175 w =>
        pvv prog (binOp .add 50 t_175 t_141) w fun t_176 w =>
        pvv prog (Instr.indexAt 52 v_94 (.int .i64 4)) w fun t_177 w =>
        efu prog (Instr.storeAt 50 t_177 t_176) w fun u_178 w =>
        pvv prog (binOp .add 50 t_141 t_170) w fun t_179 w =>
        pvv prog (Instr.indexAt 52 v_94 (.int .i64 0)) w fun t_180 w =>
        efu prog (Instr.storeAt 50 t_180 t_179) w fun u_181 w =>
        pvv prog (binOp .add 3 t_96 (.int .i64 1)) w fun t_182 w =>
        again_97 [t_182] w))))))) <|
      lp (fun σ w again_191 => pop σ fun t_190 σ => fin σ <|
        pvv prog (binOp .lss 3 t_190 (.int .i64 8)) w fun t_192 w =>
        cd t_192 (
          dr w fun w =>
          pvv prog (Instr.indexAt 52 h_0 t_190) w fun t_193 w =>
          pvv prog (Instr.indexAt 52 v_94 t_190) w fun t_194 w =>
          bindS (vN (Instr.loadAt 50 t_193)) fun m_196 => ldv prog (Instr.loadAt 50 t_193) w fun t_195 w =>
          bindS (vN (Instr.loadAt 50 t_194)) fun m_198 => ldv prog (Instr.loadAt 50 t_194) w fun t_197 w =>
          pvv prog (binOp .add 50 t_195 t_197) w fun t_199 w =>
          pvv prog (Instr.indexAt 52 h_0 t_190) w fun t_200 w =>
          efu prog (Instr.storeAt 50 t_200 t_199) w fun u_201 w =>
          pvv prog (binOp .add 3 t_190 (.int .i64 1)) w fun t_202 w =>
          again_191 [t_202] w) <|
        ldv prog (Instr.loadAt 52 h_0) w fun t_204 w =>
        efu prog (Instr.storeAt 52 t_1 t_204) w fun u_205 w =>
        ∃ r_206, (do loadVar 52 (← asAddr t_1)).run prog w = .ok r_206 w ∧ K r_206 w) [(.int .i64 0)] w) [(.int .i64 0)] w) [(.int .i64 0)] w
theorem B15_eq (h_p0 k_p1 b_p2 : Value) (w : World) (K : Value → World → Prop) : denFn prog Tryd.f15 T15 [h_p0, k_p1, b_p2] w K = B15 h_p0 k_p1 b_p2 w K := by kernel_rfl
theorem c15 {h_p0 k_p1 b_p2 : Value} {w : World} {K : Value → World → Prop} (h : B15 h_p0 k_p1 b_p2 w K) : Calls prog 15 #[h_p0, k_p1, b_p2] w (Ret K) :=
  denFn_calls Tryd.func15 T15_ok (Eq.mpr (B15_eq h_p0 k_p1 b_p2 w K) h)


end Go.Proofs.YtfmoikocokekhaaDoor
