import Derived.Test.YtjeiojibnmfibaaGreatDoorPI
set_option linter.all false
set_option maxRecDepth 100000
namespace Go.Proofs.YtjeiojibnmfibaaGreatDoor
open Go Hold
-- 71 (holdfast/hash.words).mix
def T71 : Ann := (.seq .none (.seq .none (.seq (.seq .none (.block (.loop 324518553658426726783156020315904 [18] (.seq .none (.seq (.seq .none .none) (.meet 162259276829213363391578009241344 [] (.block (.seq .none (.seq (.seq .none (.seq (.seq (.draw [.op 0 .pure, .op 1 .pure, .op 2 .pure, .op 3 .pure, .op 4 .pure, .op 8 .pure, .op 9 .pure, .op 10 .pure, .op 11 .pure, .op 12 .pure, .op 17 .pure, .op 18 .pure, .op 19 .pure, .op 20 .pure, .op 21 .pure, .op 26 .pure, .op 27 .pure, .op 28 .pure, .op 29 .pure, .op 30 .pure, .op 5 .load, .op 6 .pure, .op 7 .pure, .op 13 .load, .op 14 .pure, .op 15 .pure, .op 16 .pure, .op 22 .load, .op 23 .pure, .op 24 .pure, .op 25 .pure, .op 31 .load, .op 32 .pure, .op 33 .pure, .op 34 .pure, .op 35 .eff]) .none) .none)) (.seq (.draw [.op 0 .pure, .op 1 .pure, .op 2 .pure, .op 5 .pure, .op 6 .pure, .op 7 .pure, .op 11 .pure, .op 12 .pure, .op 13 .pure, .op 3 .load, .op 8 .load, .op 14 .load, .op 15 .pure, .op 4 .eff, .op 9 .eff, .op 10 .pure, .op 16 .pure, .op 17 .pure]) (.seq (.draw [.op 0 .pure, .op 1 .pure, .op 2 .pure, .op 5 .pure, .op 6 .pure, .op 7 .pure, .op 11 .pure, .op 12 .pure, .op 13 .pure, .op 3 .load, .op 8 .load, .op 14 .load, .op 15 .pure, .op 4 .eff, .op 9 .eff, .op 10 .pure, .op 16 .pure, .op 17 .pure]) (.draw [.op 0 .pure, .op 1 .pure, .op 2 .pure, .op 3 .pure, .op 5 .pure, .op 7 .pure, .op 8 .pure, .op 9 .pure, .op 12 .pure, .op 4 .load, .op 6 .pure, .op 10 .load, .op 11 .pure, .op 13 .pure, .op 14 .pure, .op 15 .eff])))))) .none)))))) (.seq .none (.seq (.seq .none (.block (.loop 784637716923335095479473028863850985159340864245963288576 [109] (.seq .none (.seq (.seq .none .none) (.seq (.block (.seq .none (.seq (.draw [.op 0 .pure, .op 3 .pure, .op 7 .pure, .op 1 .load, .op 4 .load, .op 8 .load, .op 2 .eff, .op 5 .eff, .op 6 .pure, .op 9 .eff, .op 10 .pure, .op 11 .pure]) (.seq (.draw [.op 0 .pure, .op 2 .pure, .op 4 .pure, .op 6 .pure, .op 8 .pure, .op 10 .pure, .op 16 .pure, .op 17 .pure, .op 18 .pure, .op 19 .pure, .op 22 .pure, .op 23 .pure, .op 1 .load, .op 3 .pure, .op 5 .load, .op 7 .load, .op 9 .load, .op 11 .load, .op 12 .pure, .op 13 .pure, .op 14 .pure, .op 15 .pure, .op 20 .load, .op 21 .pure, .op 24 .load, .op 25 .pure, .op 26 .pure]) (.seq (.draw [.op 0 .pure, .op 3 .pure, .op 7 .pure, .op 1 .load, .op 4 .load, .op 8 .load, .op 2 .eff, .op 5 .eff, .op 6 .pure, .op 9 .eff, .op 10 .pure, .op 11 .pure]) (.seq .none (.seq (.draw [.op 0 .pure, .op 1 .pure, .op 2 .eff]) (.seq .none .none)))))))) .none)))))) (.seq (.seq .none (.block (.loop 3213091450801057215988444711004424246742393193135027666419712 [189] (.seq .none (.seq (.seq .none .none) (.seq (.block (.seq .none (.draw [.op 0 .pure, .op 1 .pure, .op 3 .pure, .op 4 .pure, .op 2 .load, .op 5 .load, .op 6 .pure, .op 7 .pure, .op 8 .eff]))) .none)))))) (.seq .none .none)))))))
theorem T71_ok : chkFn prog Tryz.f71 T71 = true := by kernel_rfl
def B71 (h_p0 k_p1 b_p2 : Value) (w : World) (K : Value → World → Prop) : Prop :=
  efv prog (Instr.box 114 h_p0) w fun h_0 w =>
  efv prog (Instr.alloc 114 true (.tuple #[])) w fun t_1 w =>
  efv prog (Instr.alloc 134 true (.tuple #[])) w fun w_2 w =>
  lp (fun σ w again_4 => pop σ fun t_3 σ => fin σ <|
    pvv prog (binOp .lss 3 t_3 (.int .i64 64)) w fun t_5 w =>
    cd t_5 (
      jn (fun σ w => fin σ <|
        pvv prog (binOp .add 3 t_3 (.int .i64 1)) w fun t_6 w =>
        again_4 [t_6] w) fun k_7 =>
      pvv prog (binOp .lss 3 t_3 (.int .i64 16)) w fun t_8 w =>
      cd t_8 (
        dr w fun w =>
        pvv prog (binOp .mul 3 (.int .i64 4) t_3) w fun t_9 w =>
        pvv prog (Instr.indexAt 74 b_p2 t_9) w fun t_10 w =>
        pvv prog (binOp .mul 3 (.int .i64 4) t_3) w fun t_11 w =>
        pvv prog (binOp .add 3 t_11 (.int .i64 1)) w fun t_12 w =>
        pvv prog (Instr.indexAt 74 b_p2 t_12) w fun t_13 w =>
        pvv prog (binOp .mul 3 (.int .i64 4) t_3) w fun t_14 w =>
        pvv prog (binOp .add 3 t_14 (.int .i64 2)) w fun t_15 w =>
        pvv prog (Instr.indexAt 74 b_p2 t_15) w fun t_16 w =>
        pvv prog (binOp .mul 3 (.int .i64 4) t_3) w fun t_17 w =>
        pvv prog (binOp .add 3 t_17 (.int .i64 3)) w fun t_18 w =>
        pvv prog (Instr.indexAt 74 b_p2 t_18) w fun t_19 w =>
        bindS (vN (Instr.loadAt 5 t_10)) fun m_21 => ldv prog (Instr.loadAt 5 t_10) w fun t_20 w =>
        pvv prog (convert 5 100 t_20) w fun t_22 w =>
        pvv prog (binOp .shl 100 t_22 (.int .u64 24)) w fun t_23 w =>
        bindS (vN (Instr.loadAt 5 t_13)) fun m_25 => ldv prog (Instr.loadAt 5 t_13) w fun t_24 w =>
        pvv prog (convert 5 100 t_24) w fun t_26 w =>
        pvv prog (binOp .shl 100 t_26 (.int .u64 16)) w fun t_27 w =>
        pvv prog (binOp .or 100 t_23 t_27) w fun t_28 w =>
        bindS (vN (Instr.loadAt 5 t_16)) fun m_30 => ldv prog (Instr.loadAt 5 t_16) w fun t_29 w =>
        pvv prog (convert 5 100 t_29) w fun t_31 w =>
        pvv prog (binOp .shl 100 t_31 (.int .u64 8)) w fun t_32 w =>
        pvv prog (binOp .or 100 t_28 t_32) w fun t_33 w =>
        bindS (vN (Instr.loadAt 5 t_19)) fun m_35 => ldv prog (Instr.loadAt 5 t_19) w fun t_34 w =>
        pvv prog (convert 5 100 t_34) w fun t_36 w =>
        pvv prog (binOp .or 100 t_33 t_36) w fun t_37 w =>
        pvv prog (Instr.indexAt 134 w_2 t_3) w fun t_38 w =>
        efu prog (Instr.storeAt 100 t_38 t_37) w fun u_39 w =>
        k_7 [] w) <|
      dr w fun w =>
      pvv prog (binOp .sub 3 t_3 (.int .i64 15)) w fun t_41 w =>
      pvv prog (Instr.indexAt 134 w_2 t_41) w fun t_42 w =>
      pvv prog (binOp .sub 3 t_3 (.int .i64 15)) w fun t_43 w =>
      pvv prog (Instr.indexAt 134 w_2 t_43) w fun t_44 w =>
      pvv prog (binOp .sub 3 t_3 (.int .i64 15)) w fun t_45 w =>
      pvv prog (Instr.indexAt 134 w_2 t_45) w fun t_46 w =>
      bindS (vN (Instr.loadAt 100 t_42)) fun m_48 => ldv prog (Instr.loadAt 100 t_42) w fun t_47 w =>
      bindS (vN (Instr.loadAt 100 t_44)) fun m_50 => ldv prog (Instr.loadAt 100 t_44) w fun t_49 w =>
      bindS (vN (Instr.loadAt 100 t_46)) fun m_52 => ldv prog (Instr.loadAt 100 t_46) w fun t_51 w =>
      pvv prog (binOp .shr 100 t_51 (.int .u64 3)) w fun t_53 w =>
      Calls prog 87 #[t_47, (.int .i64 (-7))] w (Ret fun t_54 w => stay prog none m_52 t_51 w <| stay prog none m_50 t_49 w <| 
      Calls prog 87 #[t_49, (.int .i64 (-18))] w (Ret fun t_55 w => stay prog none m_52 t_51 w <| stay prog none m_48 t_47 w <| 
      pvv prog (binOp .xor 100 t_54 t_55) w fun t_56 w =>
      pvv prog (binOp .xor 100 t_56 t_53) w fun t_57 w =>
      dr w fun w =>
      pvv prog (binOp .sub 3 t_3 (.int .i64 2)) w fun t_58 w =>
      pvv prog (Instr.indexAt 134 w_2 t_58) w fun t_59 w =>
      pvv prog (binOp .sub 3 t_3 (.int .i64 2)) w fun t_60 w =>
      pvv prog (Instr.indexAt 134 w_2 t_60) w fun t_61 w =>
      pvv prog (binOp .sub 3 t_3 (.int .i64 2)) w fun t_62 w =>
      pvv prog (Instr.indexAt 134 w_2 t_62) w fun t_63 w =>
      bindS (vN (Instr.loadAt 100 t_59)) fun m_65 => ldv prog (Instr.loadAt 100 t_59) w fun t_64 w =>
      bindS (vN (Instr.loadAt 100 t_61)) fun m_67 => ldv prog (Instr.loadAt 100 t_61) w fun t_66 w =>
      bindS (vN (Instr.loadAt 100 t_63)) fun m_69 => ldv prog (Instr.loadAt 100 t_63) w fun t_68 w =>
      pvv prog (binOp .shr 100 t_68 (.int .u64 10)) w fun t_70 w =>
      Calls prog 87 #[t_64, (.int .i64 (-17))] w (Ret fun t_71 w => stay prog none m_69 t_68 w <| stay prog none m_67 t_66 w <| 
      Calls prog 87 #[t_66, (.int .i64 (-19))] w (Ret fun t_72 w => stay prog none m_69 t_68 w <| stay prog none m_65 t_64 w <| 
      pvv prog (binOp .xor 100 t_71 t_72) w fun t_73 w =>
      pvv prog (binOp .xor 100 t_73 t_70) w fun t_74 w =>
      dr w fun w =>
      pvv prog (binOp .sub 3 t_3 (.int .i64 16)) w fun t_75 w =>
      pvv prog (Instr.indexAt 134 w_2 t_75) w fun t_76 w =>
      pvv prog (binOp .sub 3 t_3 (.int .i64 7)) w fun t_77 w =>
      pvv prog (Instr.indexAt 134 w_2 t_77) w fun t_78 w =>
      bindS (vN (Instr.loadAt 100 t_76)) fun m_80 => ldv prog (Instr.loadAt 100 t_76) w fun t_79 w =>
      pvv prog (binOp .add 100 t_79 t_57) w fun t_81 w =>
      bindS (vN (Instr.loadAt 100 t_78)) fun m_83 => ldv prog (Instr.loadAt 100 t_78) w fun t_82 w =>
      pvv prog (binOp .add 100 t_81 t_82) w fun t_84 w =>
      pvv prog (binOp .add 100 t_84 t_74) w fun t_85 w =>
      pvv prog (Instr.indexAt 134 w_2 t_3) w fun t_86 w =>
      efu prog (Instr.storeAt 100 t_86 t_85) w fun u_87 w =>
      k_7 [] w))))) <|
    ldv prog (Instr.loadAt 114 h_0) w fun t_93 w =>
    efv prog (Instr.alloc 114 true (.tuple #[])) w fun v_94 w =>
    efu prog (Instr.storeAt 114 v_94 t_93) w fun u_95 w =>
    lp (fun σ w again_97 => pop σ fun t_96 σ => fin σ <|
      pvv prog (binOp .lss 3 t_96 (.int .i64 64)) w fun t_98 w =>
      cd t_98 (
        dr w fun w =>
        pvv prog (Instr.indexAt 114 v_94 (.int .i64 4)) w fun t_99 w =>
        pvv prog (Instr.indexAt 114 v_94 (.int .i64 4)) w fun t_100 w =>
        pvv prog (Instr.indexAt 114 v_94 (.int .i64 4)) w fun t_101 w =>
        bindS (vN (Instr.loadAt 100 t_99)) fun m_103 => ldv prog (Instr.loadAt 100 t_99) w fun t_102 w =>
        bindS (vN (Instr.loadAt 100 t_100)) fun m_105 => ldv prog (Instr.loadAt 100 t_100) w fun t_104 w =>
        bindS (vN (Instr.loadAt 100 t_101)) fun m_107 => ldv prog (Instr.loadAt 100 t_101) w fun t_106 w =>
        Calls prog 87 #[t_102, (.int .i64 (-6))] w (Ret fun t_108 w => stay prog none m_107 t_106 w <| stay prog none m_105 t_104 w <| 
        Calls prog 87 #[t_104, (.int .i64 (-11))] w (Ret fun t_109 w => stay prog none m_107 t_106 w <| stay prog none m_103 t_102 w <| 
        pvv prog (binOp .xor 100 t_108 t_109) w fun t_110 w =>
        Calls prog 87 #[t_106, (.int .i64 (-25))] w (Ret fun t_111 w => stay prog none m_105 t_104 w <| stay prog none m_103 t_102 w <| 
        pvv prog (binOp .xor 100 t_110 t_111) w fun t_112 w =>
        dr w fun w =>
        pvv prog (Instr.indexAt 114 v_94 (.int .i64 7)) w fun t_113 w =>
        pvv prog (Instr.indexAt 114 v_94 (.int .i64 6)) w fun t_114 w =>
        pvv prog (Instr.indexAt 114 v_94 (.int .i64 4)) w fun t_115 w =>
        pvv prog (Instr.indexAt 114 v_94 (.int .i64 5)) w fun t_116 w =>
        pvv prog (Instr.indexAt 114 v_94 (.int .i64 6)) w fun t_117 w =>
        pv prog (oNil k_p1) w fun t_118 w =>
        pvv prog (Instr.indexAt 134 t_118 t_96) w fun t_119 w =>
        pvv prog (Instr.indexAt 134 w_2 t_96) w fun t_120 w =>
        bindS (vN (Instr.loadAt 100 t_113)) fun m_122 => ldv prog (Instr.loadAt 100 t_113) w fun t_121 w =>
        pvv prog (binOp .add 100 t_121 t_112) w fun t_123 w =>
        bindS (vN (Instr.loadAt 100 t_114)) fun m_125 => ldv prog (Instr.loadAt 100 t_114) w fun t_124 w =>
        bindS (vN (Instr.loadAt 100 t_115)) fun m_127 => ldv prog (Instr.loadAt 100 t_115) w fun t_126 w =>
        bindS (vN (Instr.loadAt 100 t_116)) fun m_129 => ldv prog (Instr.loadAt 100 t_116) w fun t_128 w =>
        bindS (vN (Instr.loadAt 100 t_117)) fun m_131 => ldv prog (Instr.loadAt 100 t_117) w fun t_130 w =>
        pvv prog (binOp .xor 100 t_128 t_130) w fun t_132 w =>
        pvv prog (binOp .and 100 t_126 t_132) w fun t_133 w =>
        pvv prog (binOp .xor 100 t_124 t_133) w fun t_134 w =>
        pvv prog (binOp .add 100 t_123 t_134) w fun t_135 w =>
        bindS (vN (Instr.loadAt 100 t_119)) fun m_137 => ldv prog (Instr.loadAt 100 t_119) w fun t_136 w =>
        pvv prog (binOp .add 100 t_135 t_136) w fun t_138 w =>
        bindS (vN (Instr.loadAt 100 t_120)) fun m_140 => ldv prog (Instr.loadAt 100 t_120) w fun t_139 w =>
        pvv prog (binOp .add 100 t_138 t_139) w fun t_141 w =>
        dr w fun w =>
        pvv prog (Instr.indexAt 114 v_94 (.int .i64 0)) w fun t_142 w =>
        pvv prog (Instr.indexAt 114 v_94 (.int .i64 0)) w fun t_143 w =>
        pvv prog (Instr.indexAt 114 v_94 (.int .i64 0)) w fun t_144 w =>
        bindS (vN (Instr.loadAt 100 t_142)) fun m_146 => ldv prog (Instr.loadAt 100 t_142) w fun t_145 w =>
        bindS (vN (Instr.loadAt 100 t_143)) fun m_148 => ldv prog (Instr.loadAt 100 t_143) w fun t_147 w =>
        bindS (vN (Instr.loadAt 100 t_144)) fun m_150 => ldv prog (Instr.loadAt 100 t_144) w fun t_149 w =>
        Calls prog 87 #[t_145, (.int .i64 (-2))] w (Ret fun t_151 w => stay prog none m_150 t_149 w <| stay prog none m_148 t_147 w <| 
        Calls prog 87 #[t_147, (.int .i64 (-13))] w (Ret fun t_152 w => stay prog none m_150 t_149 w <| stay prog none m_146 t_145 w <| 
        pvv prog (binOp .xor 100 t_151 t_152) w fun t_153 w =>
        Calls prog 87 #[t_149, (.int .i64 (-22))] w (Ret fun t_154 w => stay prog none m_148 t_147 w <| stay prog none m_146 t_145 w <| 
        pvv prog (binOp .xor 100 t_153 t_154) w fun t_155 w =>
        pvv prog (Instr.indexAt 114 v_94 (.int .i64 0)) w fun t_156 w =>
        ldv prog (Instr.loadAt 100 t_156) w fun t_157 w =>
        pvv prog (Instr.indexAt 114 v_94 (.int .i64 1)) w fun t_158 w =>
        ldv prog (Instr.loadAt 100 t_158) w fun t_159 w =>
        pvv prog (binOp .and 100 t_157 t_159) w fun t_160 w =>
        pvv prog (Instr.indexAt 114 v_94 (.int .i64 2)) w fun t_161 w =>
        ldv prog (Instr.loadAt 100 t_161) w fun t_162 w =>
        pvv prog (Instr.indexAt 114 v_94 (.int .i64 0)) w fun t_163 w =>
        ldv prog (Instr.loadAt 100 t_163) w fun t_164 w =>
        pvv prog (Instr.indexAt 114 v_94 (.int .i64 1)) w fun t_165 w =>
        ldv prog (Instr.loadAt 100 t_165) w fun t_166 w =>
        pvv prog (binOp .or 100 t_164 t_166) w fun t_167 w =>
        pvv prog (binOp .and 100 t_162 t_167) w fun t_168 w =>
        pvv prog (binOp .or 100 t_160 t_168) w fun t_169 w =>
        pvv prog (binOp .add 100 t_155 t_169) w fun t_170 w =>
        dr w fun w =>
        pvv prog (Instr.sliceAt 114 v_94 (some (.int .i64 1)) none none) w fun t_171 w =>
        pvv prog (Instr.sliceAt 114 v_94 none (some (.int .i64 7)) none) w fun t_172 w =>
        ef prog (oBi .copy #[101, 101] 3 #[false, false] #[t_171, t_172]) w fun t_173 w =>
        pvv prog (Instr.indexAt 114 v_94 (.int .i64 4)) w fun t_174 w =>
        ldv prog (Instr.loadAt 100 t_174) w fun t_175 w =>
        pvv prog (binOp .add 100 t_175 t_141) w fun t_176 w =>
        pvv prog (Instr.indexAt 114 v_94 (.int .i64 4)) w fun t_177 w =>
        efu prog (Instr.storeAt 100 t_177 t_176) w fun u_178 w =>
        pvv prog (binOp .add 100 t_141 t_170) w fun t_179 w =>
        pvv prog (Instr.indexAt 114 v_94 (.int .i64 0)) w fun t_180 w =>
        efu prog (Instr.storeAt 100 t_180 t_179) w fun u_181 w =>
        pvv prog (binOp .add 3 t_96 (.int .i64 1)) w fun t_182 w =>
        again_97 [t_182] w))))))) <|
      lp (fun σ w again_191 => pop σ fun t_190 σ => fin σ <|
        pvv prog (binOp .lss 3 t_190 (.int .i64 8)) w fun t_192 w =>
        cd t_192 (
          dr w fun w =>
          pvv prog (Instr.indexAt 114 h_0 t_190) w fun t_193 w =>
          pvv prog (Instr.indexAt 114 v_94 t_190) w fun t_194 w =>
          bindS (vN (Instr.loadAt 100 t_193)) fun m_196 => ldv prog (Instr.loadAt 100 t_193) w fun t_195 w =>
          bindS (vN (Instr.loadAt 100 t_194)) fun m_198 => ldv prog (Instr.loadAt 100 t_194) w fun t_197 w =>
          pvv prog (binOp .add 100 t_195 t_197) w fun t_199 w =>
          pvv prog (Instr.indexAt 114 h_0 t_190) w fun t_200 w =>
          efu prog (Instr.storeAt 100 t_200 t_199) w fun u_201 w =>
          pvv prog (binOp .add 3 t_190 (.int .i64 1)) w fun t_202 w =>
          again_191 [t_202] w) <|
        ldv prog (Instr.loadAt 114 h_0) w fun t_204 w =>
        efu prog (Instr.storeAt 114 t_1 t_204) w fun u_205 w =>
        ∃ r_206, (do loadVar 114 (← asAddr t_1)).run prog w = .ok r_206 w ∧ K r_206 w) [(.int .i64 0)] w) [(.int .i64 0)] w) [(.int .i64 0)] w
theorem B71_eq (h_p0 k_p1 b_p2 : Value) (w : World) (K : Value → World → Prop) : denFn prog Tryz.f71 T71 [h_p0, k_p1, b_p2] w K = B71 h_p0 k_p1 b_p2 w K := by kernel_rfl
theorem c71 {h_p0 k_p1 b_p2 : Value} {w : World} {K : Value → World → Prop} (h : B71 h_p0 k_p1 b_p2 w K) : Calls prog 71 #[h_p0, k_p1, b_p2] w (Ret K) :=
  denFn_calls Tryz.func71 T71_ok (Eq.mpr (B71_eq h_p0 k_p1 b_p2 w K) h)

-- 10 holdfast/holdfastref14.Load
def T10 : Ann := (.seq .none (.seq (.seq .none (.seq (.seq .none .none) .none)) (.seq .none (.seq .none (.seq .none (.seq .none (.seq .none (.seq .none (.seq (.seq .none (.seq (.seq .none .none) .none)) (.seq .none (.seq .none (.seq (.seq .none (.block (.loop 6901746346790563787434755683871063864206123839884640373975632180019212 [17, 18] (.seq (.seq .none (.seq .none .none)) (.seq (.block (.seq .none (.seq (.seq (.draw [.op 0 .pure, .op 2 .pure, .op 3 .pure, .op 4 .pure, .op 5 .pure, .op 1 .load, .op 6 .eff, .op 7 .pure, .op 8 .pure, .op 9 .pure, .op 10 .pure, .op 11 .load, .op 12 .pure, .op 13 .pure, .op 14 .pure, .op 15 .pure, .op 16 .pure, .op 17 .load, .op 18 .pure, .op 19 .load, .op 20 .pure, .op 21 .pure, .op 22 .pure, .op 23 .pure, .op 24 .pure, .op 25 .load, .op 26 .pure, .op 27 .load, .op 28 .pure, .op 29 .pure, .op 30 .pure]) (.seq (.seq .none .none) .none)) (.seq .none (.seq (.seq .none (.seq (.seq .none .none) .none)) (.seq .none (.draw [.op 0 .pure, .op 1 .pure, .op 2 .pure, .op 3 .pure, .op 5 .pure, .op 6 .pure, .op 7 .pure, .op 8 .pure, .op 9 .pure, .op 10 .pure, .op 14 .pure, .op 4 .load, .op 11 .load, .op 12 .pure, .op 13 .load, .op 15 .load, .op 16 .pure, .op 17 .load, .op 18 .pure, .op 19 .eff, .op 20 .eff, .op 21 .pure, .op 22 .pure, .op 23 .eff]))))))) .none))))) (.seq .none .none)))))))))))))
theorem T10_ok : chkFn prog Tryz.f10 T10 = true := by kernel_rfl
def B10 (rows_p0 : Value) (w : World) (K : Value → World → Prop) : Prop :=
  pv prog (oBi .len #[31] 3 #[false] #[rows_p0]) w fun t_0 w =>
  pvv prog (binOp .lss 3 t_0 (.int .i64 4)) w fun t_1 w =>
  gate (some (t_1, false)) (fun K => K rows_p0 w) w fun t_2 w =>
  gate (some (t_1, false)) (fun K => pv prog (oBi .len #[31] 3 #[false] #[t_2]) w K) w fun t_3 w =>
  gate (some (t_1, false)) (fun K => pvv prog (binOp .gtr 3 t_3 (.int .i64 68)) w K) w fun t_4 w =>
  pv prog (oPick t_1 (.bool true) t_4) w fun t_5 w =>
  gate (some (t_5, false)) (fun K => K rows_p0 w) w fun t_6 w =>
  gate (some (t_5, false)) (fun K => pvv prog (Instr.indexAt 31 t_6 (.int .i64 0)) w K) w fun t_7 w =>
  gate (some (t_5, false)) (fun K => pvv prog (Instr.fieldAt 35 t_7 0) w K) w fun t_8 w =>
  gate (some (t_5, false)) (fun K => ldv prog (Instr.loadAt 9 t_8) w K) w fun t_9 w =>
  gate (some (t_5, false)) (fun K => pvv prog (oEq .neq 9 (.tmp 34) (.const (.string ⟨#[35]⟩)) t_9 (.string ⟨#[35]⟩)) w K) w fun t_10 w =>
  pv prog (oPick t_5 (.bool true) t_10) w fun t_11 w =>
  gate (some (t_11, false)) (fun K => K rows_p0 w) w fun t_12 w =>
  gate (some (t_11, false)) (fun K => pvv prog (Instr.indexAt 31 t_12 (.int .i64 0)) w K) w fun t_13 w =>
  gate (some (t_11, false)) (fun K => pvv prog (Instr.fieldAt 35 t_13 1) w K) w fun t_14 w =>
  gate (some (t_11, false)) (fun K => ldv prog (Instr.loadAt 33 t_14) w K) w fun t_15 w =>
  gate (some (t_11, false)) (fun K => pv prog (oBi .len #[33] 3 #[false] #[t_15]) w K) w fun t_16 w =>
  gate (some (t_11, false)) (fun K => pvv prog (oEq .neq 3 (.tmp 42) (.const (.int .i64 3)) t_16 (.int .i64 3)) w K) w fun t_17 w =>
  pv prog (oPick t_11 (.bool true) t_17) w fun t_18 w =>
  cd t_18 (
    K (.tuple #[(.pointer none), (.int .i64 3)]) w) <|
  pvv prog (Instr.indexAt 31 rows_p0 (.int .i64 0)) w fun t_19 w =>
  pvv prog (Instr.fieldAt 35 t_19 1) w fun t_20 w =>
  ldv prog (Instr.loadAt 33 t_20) w fun t_21 w =>
  pvv prog (Instr.indexAt 33 t_21 (.int .i64 0)) w fun t_22 w =>
  ldv prog (Instr.loadAt 9 t_22) w fun t_23 w =>
  Calls prog 29 #[t_23] w (Ret fun t_24 w =>
  pvv prog (Instr.extract t_24 0) w fun t_25 w =>
  pvv prog (Instr.extract t_24 1) w fun t_26 w =>
  pvv prog (Instr.indexAt 31 rows_p0 (.int .i64 0)) w fun t_27 w =>
  pvv prog (Instr.fieldAt 35 t_27 1) w fun t_28 w =>
  ldv prog (Instr.loadAt 33 t_28) w fun t_29 w =>
  pvv prog (Instr.indexAt 33 t_29 (.int .i64 1)) w fun t_30 w =>
  ldv prog (Instr.loadAt 9 t_30) w fun t_31 w =>
  Calls prog 29 #[t_31] w (Ret fun t_32 w =>
  pvv prog (Instr.extract t_32 0) w fun t_33 w =>
  pvv prog (Instr.extract t_32 1) w fun t_34 w =>
  pvv prog (Instr.indexAt 31 rows_p0 (.int .i64 0)) w fun t_35 w =>
  pvv prog (Instr.fieldAt 35 t_35 1) w fun t_36 w =>
  ldv prog (Instr.loadAt 33 t_36) w fun t_37 w =>
  pvv prog (Instr.indexAt 33 t_37 (.int .i64 2)) w fun t_38 w =>
  ldv prog (Instr.loadAt 9 t_38) w fun t_39 w =>
  Calls prog 29 #[t_39] w (Ret fun t_40 w =>
  pvv prog (Instr.extract t_40 0) w fun t_41 w =>
  pvv prog (Instr.extract t_40 1) w fun t_42 w =>
  pvv prog (Instr.indexAt 31 rows_p0 (.int .i64 1)) w fun t_43 w =>
  ldv prog (Instr.loadAt 35 t_43) w fun t_44 w =>
  Calls prog 30 #[t_44, (.string ⟨#[97]⟩)] w (Ret fun t_45 w =>
  pvv prog (Instr.extract t_45 0) w fun t_46 w =>
  pvv prog (Instr.extract t_45 1) w fun t_47 w =>
  efv prog (Instr.alloc 44 true (.tuple #[])) w fun a_48 w =>
  efu prog (Instr.storeAt 44 a_48 t_46) w fun u_49 w =>
  pvv prog (Instr.indexAt 31 rows_p0 (.int .i64 2)) w fun t_50 w =>
  ldv prog (Instr.loadAt 35 t_50) w fun t_51 w =>
  Calls prog 30 #[t_51, (.string ⟨#[98]⟩)] w (Ret fun t_52 w =>
  pvv prog (Instr.extract t_52 0) w fun t_53 w =>
  pvv prog (Instr.extract t_52 1) w fun t_54 w =>
  efv prog (Instr.alloc 44 true (.tuple #[])) w fun b_55 w =>
  efu prog (Instr.storeAt 44 b_55 t_53) w fun u_56 w =>
  pvv prog (Instr.indexAt 31 rows_p0 (.int .i64 3)) w fun t_57 w =>
  ldv prog (Instr.loadAt 35 t_57) w fun t_58 w =>
  Calls prog 30 #[t_58, (.string ⟨#[104]⟩)] w (Ret fun t_59 w =>
  pvv prog (Instr.extract t_59 0) w fun t_60 w =>
  pvv prog (Instr.extract t_59 1) w fun t_61 w =>
  efv prog (Instr.alloc 44 true (.tuple #[])) w fun h_62 w =>
  efu prog (Instr.storeAt 44 h_62 t_60) w fun u_63 w =>
  pvv prog (oEq .neq 36 (.tmp 96) (.const (.int .i64 0)) t_26 (.int .i64 0)) w fun t_64 w =>
  gate (some (t_64, false)) (fun K => K t_34 w) w fun t_65 w =>
  gate (some (t_64, false)) (fun K => pvv prog (oEq .neq 36 (.tmp 99) (.const (.int .i64 0)) t_65 (.int .i64 0)) w K) w fun t_66 w =>
  pv prog (oPick t_64 (.bool true) t_66) w fun t_67 w =>
  gate (some (t_67, false)) (fun K => K t_42 w) w fun t_68 w =>
  gate (some (t_67, false)) (fun K => pvv prog (oEq .neq 36 (.tmp 103) (.const (.int .i64 0)) t_68 (.int .i64 0)) w K) w fun t_69 w =>
  pv prog (oPick t_67 (.bool true) t_69) w fun t_70 w =>
  gate (some (t_70, false)) (fun K => K t_47 w) w fun t_71 w =>
  gate (some (t_70, false)) (fun K => pvv prog (Op.unary .not t_71) w K) w fun t_72 w =>
  pv prog (oPick t_70 (.bool true) t_72) w fun t_73 w =>
  gate (some (t_73, false)) (fun K => K t_54 w) w fun t_74 w =>
  gate (some (t_73, false)) (fun K => pvv prog (Op.unary .not t_74) w K) w fun t_75 w =>
  pv prog (oPick t_73 (.bool true) t_75) w fun t_76 w =>
  gate (some (t_76, false)) (fun K => K t_61 w) w fun t_77 w =>
  gate (some (t_76, false)) (fun K => pvv prog (Op.unary .not t_77) w K) w fun t_78 w =>
  pv prog (oPick t_76 (.bool true) t_78) w fun t_79 w =>
  gate (some (t_79, false)) (fun K => K t_25 w) w fun t_80 w =>
  gate (some (t_79, false)) (fun K => pvv prog (binOp .gtr 3 t_80 (.int .i64 1099511627776)) w K) w fun t_81 w =>
  pv prog (oPick t_79 (.bool true) t_81) w fun t_82 w =>
  gate (some (t_82, false)) (fun K => K t_33 w) w fun t_83 w =>
  gate (some (t_82, false)) (fun K => pvv prog (binOp .gtr 3 t_83 (.int .i64 1099511627776)) w K) w fun t_84 w =>
  pv prog (oPick t_82 (.bool true) t_84) w fun t_85 w =>
  gate (some (t_85, false)) (fun K => K t_33 w) w fun t_86 w =>
  gate (some (t_85, false)) (fun K => K t_25 w) w fun t_87 w =>
  gate (some (t_85, false)) (fun K => K rows_p0 w) w fun t_88 w =>
  gate (some (t_85, false)) (fun K => pv prog (oBi .len #[31] 3 #[false] #[t_88]) w K) w fun t_89 w =>
  gate (some (t_85, false)) (fun K => pvv prog (binOp .add 3 t_87 t_89) w K) w fun t_90 w =>
  gate (some (t_85, false)) (fun K => pvv prog (binOp .sub 3 t_90 (.int .i64 4)) w K) w fun t_91 w =>
  gate (some (t_85, false)) (fun K => pvv prog (binOp .gtr 3 t_86 t_91) w K) w fun t_92 w =>
  pv prog (oPick t_85 (.bool true) t_92) w fun t_93 w =>
  gate (some (t_93, false)) (fun K => K t_41 w) w fun t_94 w =>
  gate (some (t_93, false)) (fun K => pvv prog (binOp .gtr 3 t_94 (.int .i64 1099511627776)) w K) w fun t_95 w =>
  pv prog (oPick t_93 (.bool true) t_95) w fun t_96 w =>
  cd t_96 (
    K (.tuple #[(.pointer none), (.int .i64 3)]) w) <|
  ldv prog (Instr.loadAt 44 b_55) w fun t_97 w =>
  ldv prog (Instr.loadAt 44 a_48) w fun t_98 w =>
  ldv prog (Instr.loadAt 44 h_62) w fun t_99 w =>
  pvv prog (Instr.build 54 #[(0, t_25), (1, t_33), (2, t_41), (3, t_97), (4, t_98), (5, t_99)]) w fun t_100 w =>
  efv prog (Instr.box 54 t_100) w fun t_101 w =>
  lp (fun σ w again_104 => pop σ fun before_102 σ => pop σ fun i_103 σ => fin σ <|
    pv prog (oBi .len #[31] 3 #[false] #[rows_p0]) w fun t_105 w =>
    pvv prog (binOp .lss 3 i_103 t_105) w fun t_106 w =>
    cd t_106 (
      pvv prog (Instr.indexAt 31 rows_p0 i_103) w fun t_107 w =>
      ldv prog (Instr.loadAt 35 t_107) w fun t_108 w =>
      efv prog (Instr.alloc 35 true (.tuple #[])) w fun r_109 w =>
      efu prog (Instr.storeAt 35 r_109 t_108) w fun u_110 w =>
      dr w fun w =>
      pvv prog (Instr.fieldAt 35 r_109 0) w fun t_111 w =>
      pvv prog (binOp .add 3 t_25 i_103) w fun t_112 w =>
      pvv prog (binOp .sub 3 t_112 (.int .i64 3)) w fun t_113 w =>
      bindS (vN (Instr.loadAt 9 t_111)) fun m_115 => ldv prog (Instr.loadAt 9 t_111) w fun t_114 w =>
      Calls prog 23 #[t_113] w (Ret fun t_116 w => stay prog none m_115 t_114 w <| 
      pvv prog (binOp .add 9 (.string ⟨#[110]⟩) t_116) w fun t_117 w =>
      pvv prog (oEq .neq 9 (.tmp 158) (.tmp 164) t_114 t_117) w fun t_118 w =>
      gate (some (t_118, false)) (fun K => pvv prog (Instr.fieldAt 35 r_109 1) w K) w fun t_119 w =>
      bindS (vN (Instr.loadAt 33 t_119)) fun m_121 => gate (some (t_118, false)) (fun K => ldv prog (Instr.loadAt 33 t_119) w K) w fun t_120 w =>
      gate (some (t_118, false)) (fun K => pv prog (oBi .len #[33] 3 #[false] #[t_120]) w K) w fun t_122 w =>
      gate (some (t_118, false)) (fun K => pvv prog (oEq .neq 3 (.tmp 169) (.const (.int .i64 3)) t_122 (.int .i64 3)) w K) w fun t_123 w =>
      pv prog (oPick t_118 (.bool true) t_123) w fun t_124 w =>
      gate (some (t_124, false)) (fun K => pvv prog (Instr.fieldAt 35 r_109 1) w K) w fun t_125 w =>
      bindS (vN (Instr.loadAt 33 t_125)) fun m_127 => gate (some (t_124, false)) (fun K => ldv prog (Instr.loadAt 33 t_125) w K) w fun t_126 w =>
      gate (some (t_124, false)) (fun K => pvv prog (Instr.indexAt 33 t_126 (.int .i64 1)) w K) w fun t_128 w =>
      bindS (vN (Instr.loadAt 9 t_128)) fun m_130 => gate (some (t_124, false)) (fun K => ldv prog (Instr.loadAt 9 t_128) w K) w fun t_129 w =>
      gate (some (t_124, false)) (fun K => pv prog (oBi .len #[9] 3 #[false] #[t_129]) w K) w fun t_131 w =>
      gate (some (t_124, false)) (fun K => pvv prog (binOp .gtr 3 t_131 (.int .i64 12)) w K) w fun t_132 w =>
      pv prog (oPick t_124 (.bool true) t_132) w fun t_133 w =>
      gate (some (t_133, false)) (fun K => pvv prog (Instr.fieldAt 35 r_109 1) w K) w fun t_134 w =>
      bindS (vN (Instr.loadAt 33 t_134)) fun m_136 => gate (some (t_133, false)) (fun K => ldv prog (Instr.loadAt 33 t_134) w K) w fun t_135 w =>
      gate (some (t_133, false)) (fun K => pvv prog (Instr.indexAt 33 t_135 (.int .i64 2)) w K) w fun t_137 w =>
      bindS (vN (Instr.loadAt 9 t_137)) fun m_139 => gate (some (t_133, false)) (fun K => ldv prog (Instr.loadAt 9 t_137) w K) w fun t_138 w =>
      gate (some (t_133, false)) (fun K => pv prog (oBi .len #[9] 3 #[false] #[t_138]) w K) w fun t_140 w =>
      gate (some (t_133, false)) (fun K => pvv prog (binOp .gtr 3 t_140 (.int .i64 30)) w K) w fun t_141 w =>
      pv prog (oPick t_133 (.bool true) t_141) w fun t_142 w =>
      cd t_142 (
        K (.tuple #[(.pointer none), (.int .i64 3)]) w) <|
      pvv prog (Instr.fieldAt 35 r_109 1) w fun t_143 w =>
      ldv prog (Instr.loadAt 33 t_143) w fun t_144 w =>
      pvv prog (Instr.indexAt 33 t_144 (.int .i64 0)) w fun t_145 w =>
      ldv prog (Instr.loadAt 9 t_145) w fun t_146 w =>
      Calls prog 29 #[t_146] w (Ret fun t_147 w =>
      pvv prog (Instr.extract t_147 0) w fun t_148 w =>
      pvv prog (Instr.extract t_147 1) w fun t_149 w =>
      pvv prog (oEq .neq 36 (.tmp 196) (.const (.int .i64 0)) t_149 (.int .i64 0)) w fun t_150 w =>
      gate (some (t_150, false)) (fun K => K t_148 w) w fun t_151 w =>
      gate (some (t_150, false)) (fun K => K before_102 w) w fun t_152 w =>
      gate (some (t_150, false)) (fun K => pvv prog (binOp .lss 3 t_151 t_152) w K) w fun t_153 w =>
      pv prog (oPick t_150 (.bool true) t_153) w fun t_154 w =>
      gate (some (t_154, false)) (fun K => K t_148 w) w fun t_155 w =>
      gate (some (t_154, false)) (fun K => K t_41 w) w fun t_156 w =>
      gate (some (t_154, false)) (fun K => pvv prog (binOp .gtr 3 t_155 t_156) w K) w fun t_157 w =>
      pv prog (oPick t_154 (.bool true) t_157) w fun t_158 w =>
      cd t_158 (
        K (.tuple #[(.pointer none), (.int .i64 3)]) w) <|
      dr w fun w =>
      pv prog (oNil t_101) w fun t_159 w =>
      pvv prog (Instr.fieldAt 54 t_159 6) w fun t_160 w =>
      pvv prog (binOp .add 3 t_25 i_103) w fun t_161 w =>
      pvv prog (binOp .sub 3 t_161 (.int .i64 3)) w fun t_162 w =>
      pvv prog (Instr.fieldAt 35 r_109 1) w fun t_163 w =>
      pvv prog (Instr.fieldAt 35 r_109 1) w fun t_164 w =>
      bindS (vN (Instr.loadAt 41 t_160)) fun m_166 => ldv prog (Instr.loadAt 41 t_160) w fun t_165 w =>
      bindS (vN (Instr.loadAt 33 t_163)) fun m_168 => ldv prog (Instr.loadAt 33 t_163) w fun t_167 w =>
      pvv prog (Instr.indexAt 33 t_167 (.int .i64 1)) w fun t_169 w =>
      bindS (vN (Instr.loadAt 9 t_169)) fun m_171 => ldv prog (Instr.loadAt 9 t_169) w fun t_170 w =>
      bindS (vN (Instr.loadAt 33 t_164)) fun m_173 => ldv prog (Instr.loadAt 33 t_164) w fun t_172 w =>
      pvv prog (Instr.indexAt 33 t_172 (.int .i64 2)) w fun t_174 w =>
      bindS (vN (Instr.loadAt 9 t_174)) fun m_176 => ldv prog (Instr.loadAt 9 t_174) w fun t_175 w =>
      pvv prog (Instr.build 56 #[(0, t_162), (1, t_148), (2, t_170), (3, t_175)]) w fun t_177 w =>
      efv prog (Instr.buildSlice 41 1 #[(0, t_177)]) w fun t_178 w => stay prog none m_176 t_175 w <| stay prog none m_173 t_172 w <| stay prog none m_171 t_170 w <| stay prog none m_168 t_167 w <| stay prog none m_166 t_165 w <| 
      ef prog (oBi .append #[41, 41] 41 #[false, false] #[t_165, t_178]) w fun t_179 w => stay prog none m_176 t_175 w <| stay prog none m_173 t_172 w <| stay prog none m_171 t_170 w <| stay prog none m_168 t_167 w <| 
      pv prog (oNil t_101) w fun t_180 w =>
      pvv prog (Instr.fieldAt 54 t_180 6) w fun t_181 w =>
      efu prog (Instr.storeAt 41 t_181 t_179) w fun u_182 w =>
      pvv prog (binOp .add 3 i_103 (.int .i64 1)) w fun t_183 w =>
      again_104 [t_148, t_183] w))) <|
    K (.tuple #[t_101, (.int .i64 0)]) w) [(.int .i64 0), (.int .i64 4)] w))))))
theorem B10_eq (rows_p0 : Value) (w : World) (K : Value → World → Prop) : denFn prog Tryz.f10 T10 [rows_p0] w K = B10 rows_p0 w K := by kernel_rfl
theorem c10 {rows_p0 : Value} {w : World} {K : Value → World → Prop} (h : B10 rows_p0 w K) : Calls prog 10 #[rows_p0] w (Ret K) :=
  denFn_calls Tryz.func10 T10_ok (Eq.mpr (B10_eq rows_p0 w K) h)

-- 17 (*holdfast/audit.Chain).Add
def T17 : Ann := (.seq .none (.seq (.block (.seq .none (.seq (.seq .none .none) (.seq .none (.seq (.seq .none .none) (.seq .none (.seq (.seq .none .none) (.seq .none (.seq (.seq .none .none) (.seq .none (.seq (.seq .none .none) .none))))))))))) (.seq .none (.seq (.draw [.op 0 .pure, .op 1 .pure, .op 2 .pure, .op 3 .pure, .op 5 .pure, .op 6 .pure, .op 7 .pure, .op 10 .pure, .op 11 .pure, .op 12 .pure, .op 4 .load, .op 8 .load, .op 9 .pure, .op 13 .load, .op 14 .pure, .op 15 .pure, .op 16 .load, .op 17 .eff, .op 18 .eff, .op 19 .pure, .op 20 .pure, .op 21 .eff]) (.seq (.draw [.op 0 .pure, .op 1 .pure, .op 2 .pure, .op 3 .pure, .op 4 .load, .op 5 .load, .op 6 .eff, .op 7 .pure, .op 8 .pure, .op 9 .eff]) (.seq .none (.seq .none .none)))))))
theorem T17_ok : chkFn prog Tryz.f17 T17 = true := by kernel_rfl
def B17 (c_p0 at_p1 what_p2 who_p3 : Value) (w : World) (K : Value → World → Prop) : Prop :=
  efv prog (Instr.alloc 56 true (.tuple #[])) w fun t_0 w =>
  pvv prog (oEq .eql 25 (.tmp 12) (.const (.pointer none)) c_p0 (.pointer none)) w fun t_1 w =>
  cd t_1 (
    pvv prog (Instr.build 56 #[]) w fun t_2 w =>
    efu prog (Instr.storeAt 56 t_0 t_2) w fun u_3 w =>
    ∃ r_4, (do loadVar 56 (← asAddr t_0)).run prog w = .ok r_4 w ∧ K (.tuple #[r_4, (.int .i64 1)]) w) <|
  pvv prog (binOp .lss 3 at_p1 (.int .i64 0)) w fun t_5 w =>
  gate (some (t_5, false)) (fun K => K at_p1 w) w fun t_6 w =>
  gate (some (t_5, false)) (fun K => pvv prog (binOp .gtr 3 t_6 (.int .i64 1099511627776)) w K) w fun t_7 w =>
  pv prog (oPick t_5 (.bool true) t_7) w fun t_8 w =>
  cd t_8 (
    pvv prog (Instr.build 56 #[]) w fun t_9 w =>
    efu prog (Instr.storeAt 56 t_0 t_9) w fun u_10 w =>
    ∃ r_11, (do loadVar 56 (← asAddr t_0)).run prog w = .ok r_11 w ∧ K (.tuple #[r_11, (.int .i64 2)]) w) <|
  pv prog (oBi .len #[9] 3 #[false] #[what_p2]) w fun t_12 w =>
  pvv prog (binOp .gtr 3 t_12 (.int .i64 12)) w fun t_13 w =>
  gate (some (t_13, false)) (fun K => K who_p3 w) w fun t_14 w =>
  gate (some (t_13, false)) (fun K => pv prog (oBi .len #[9] 3 #[false] #[t_14]) w K) w fun t_15 w =>
  gate (some (t_13, false)) (fun K => pvv prog (binOp .gtr 3 t_15 (.int .i64 30)) w K) w fun t_16 w =>
  pv prog (oPick t_13 (.bool true) t_16) w fun t_17 w =>
  cd t_17 (
    pvv prog (Instr.build 56 #[]) w fun t_18 w =>
    efu prog (Instr.storeAt 56 t_0 t_18) w fun u_19 w =>
    ∃ r_20, (do loadVar 56 (← asAddr t_0)).run prog w = .ok r_20 w ∧ K (.tuple #[r_20, (.int .i64 6)]) w) <|
  pv prog (oNil c_p0) w fun t_21 w =>
  pvv prog (Instr.fieldAt 52 t_21 3) w fun t_22 w =>
  ldv prog (Instr.loadAt 3 t_22) w fun t_23 w =>
  pvv prog (binOp .lss 3 at_p1 t_23) w fun t_24 w =>
  cd t_24 (
    pvv prog (Instr.build 56 #[]) w fun t_25 w =>
    efu prog (Instr.storeAt 56 t_0 t_25) w fun u_26 w =>
    ∃ r_27, (do loadVar 56 (← asAddr t_0)).run prog w = .ok r_27 w ∧ K (.tuple #[r_27, (.int .i64 9)]) w) <|
  pv prog (oNil c_p0) w fun t_28 w =>
  pvv prog (Instr.fieldAt 52 t_28 4) w fun t_29 w =>
  ldv prog (Instr.loadAt 41 t_29) w fun t_30 w =>
  pv prog (oBi .len #[41] 3 #[false] #[t_30]) w fun t_31 w =>
  pvv prog (binOp .geq 3 t_31 (.int .i64 64)) w fun t_32 w =>
  cd t_32 (
    pvv prog (Instr.build 56 #[]) w fun t_33 w =>
    efu prog (Instr.storeAt 56 t_0 t_33) w fun u_34 w =>
    ∃ r_35, (do loadVar 56 (← asAddr t_0)).run prog w = .ok r_35 w ∧ K (.tuple #[r_35, (.int .i64 26)]) w) <|
  Calls prog 34 #[c_p0] w (Ret fun t_36 w =>
  pvv prog (binOp .add 3 t_36 (.int .i64 1)) w fun t_37 w =>
  pvv prog (Instr.build 56 #[(0, t_37), (1, at_p1), (2, what_p2), (3, who_p3)]) w fun t_38 w =>
  efv prog (Instr.alloc 56 true (.tuple #[])) w fun x_39 w =>
  efu prog (Instr.storeAt 56 x_39 t_38) w fun u_40 w =>
  dr w fun w =>
  pv prog (oNil c_p0) w fun t_41 w =>
  pvv prog (Instr.fieldAt 52 t_41 4) w fun t_42 w =>
  pv prog (oNil c_p0) w fun t_43 w =>
  pvv prog (Instr.fieldAt 52 t_43 4) w fun t_44 w =>
  pv prog (oNil c_p0) w fun t_45 w =>
  pvv prog (Instr.fieldAt 52 t_45 4) w fun t_46 w =>
  bindS (vN (Instr.loadAt 41 t_42)) fun m_48 => ldv prog (Instr.loadAt 41 t_42) w fun t_47 w =>
  bindS (vN (Instr.loadAt 41 t_44)) fun m_50 => ldv prog (Instr.loadAt 41 t_44) w fun t_49 w =>
  pv prog (oBi .len #[41] 3 #[false] #[t_49]) w fun t_51 w =>
  bindS (vN (Instr.loadAt 41 t_46)) fun m_53 => ldv prog (Instr.loadAt 41 t_46) w fun t_52 w =>
  pv prog (oBi .len #[41] 3 #[false] #[t_52]) w fun t_54 w =>
  pvv prog (Instr.sliceAt 41 t_47 none (some t_51) (some t_54)) w fun t_55 w =>
  bindS (vN (Instr.loadAt 56 x_39)) fun m_57 => ldv prog (Instr.loadAt 56 x_39) w fun t_56 w =>
  efv prog (Instr.buildSlice 41 1 #[(0, t_56)]) w fun t_58 w => stay prog none m_53 t_52 w <| stay prog none m_50 t_49 w <| stay prog none m_48 t_47 w <| 
  ef prog (oBi .append #[41, 41] 41 #[false, false] #[t_55, t_58]) w fun t_59 w => stay prog none m_57 t_56 w <| stay prog none m_53 t_52 w <| stay prog none m_50 t_49 w <| stay prog none m_48 t_47 w <| 
  pv prog (oNil c_p0) w fun t_60 w =>
  pvv prog (Instr.fieldAt 52 t_60 4) w fun t_61 w =>
  efu prog (Instr.storeAt 41 t_61 t_59) w fun u_62 w =>
  dr w fun w =>
  pv prog (oNil c_p0) w fun t_63 w =>
  pvv prog (Instr.fieldAt 52 t_63 2) w fun t_64 w =>
  bindS (vN (Instr.loadAt 44 t_64)) fun m_66 => ldv prog (Instr.loadAt 44 t_64) w fun t_65 w =>
  bindS (vN (Instr.loadAt 56 x_39)) fun m_68 => ldv prog (Instr.loadAt 56 x_39) w fun t_67 w =>
  Calls prog 35 #[t_65, t_67] w (Ret fun t_69 w =>
  pv prog (oNil c_p0) w fun t_70 w =>
  pvv prog (Instr.fieldAt 52 t_70 2) w fun t_71 w =>
  efu prog (Instr.storeAt 44 t_71 t_69) w fun u_72 w =>
  pv prog (oNil c_p0) w fun t_73 w =>
  pvv prog (Instr.fieldAt 52 t_73 3) w fun t_74 w =>
  efu prog (Instr.storeAt 3 t_74 at_p1) w fun u_75 w =>
  ldv prog (Instr.loadAt 56 x_39) w fun t_76 w =>
  efu prog (Instr.storeAt 56 t_0 t_76) w fun u_77 w =>
  ∃ r_78, (do loadVar 56 (← asAddr t_0)).run prog w = .ok r_78 w ∧ K (.tuple #[r_78, (.int .i64 0)]) w))
theorem B17_eq (c_p0 at_p1 what_p2 who_p3 : Value) (w : World) (K : Value → World → Prop) : denFn prog Tryz.f17 T17 [c_p0, at_p1, what_p2, who_p3] w K = B17 c_p0 at_p1 what_p2 who_p3 w K := by kernel_rfl
theorem c17 {c_p0 at_p1 what_p2 who_p3 : Value} {w : World} {K : Value → World → Prop} (h : B17 c_p0 at_p1 what_p2 who_p3 w K) : Calls prog 17 #[c_p0, at_p1, what_p2, who_p3] w (Ret K) :=
  denFn_calls Tryz.func17 T17_ok (Eq.mpr (B17_eq c_p0 at_p1 what_p2 who_p3 w K) h)

-- 57 holdfast/hash.Sum
def T57 : Ann := (.seq .none (.seq .none (.seq .none (.seq .none (.seq (.block (.loop 33488897 [0] (.seq (.seq .none (.seq .none .none)) (.seq (.block .none) .none)))) (.seq .none (.seq .none (.seq (.seq .none (.block (.loop 281440616972480 [6, 35] (.seq .none (.seq (.seq .none .none) (.seq (.block (.seq .none .none)) .none)))))) (.seq (.block (.loop 143833713099145280 [6] (.seq (.seq .none (.seq .none .none)) (.seq (.block .none) .none)))) (.seq (.seq .none (.block (.loop 618970019354459761297851136 [58] (.seq .none (.seq (.seq .none .none) (.seq (.block (.seq .none .none)) .none)))))) (.seq .none .none)))))))))))
theorem T57_ok : chkFn prog Tryz.f57 T57 = true := by kernel_rfl
def B57 (b_p0 : Value) (w : World) (K : Value → World → Prop) : Prop :=
  efv prog (Instr.alloc 44 true (.tuple #[])) w fun out_0 w =>
  pvv prog (Instr.build 114 #[(0, (.int .u32 1779033703)), (1, (.int .u32 3144134277)), (2, (.int .u32 1013904242)), (3, (.int .u32 2773480762)), (4, (.int .u32 1359893119)), (5, (.int .u32 2600822924)), (6, (.int .u32 528734635)), (7, (.int .u32 1541459225))]) w fun t_1 w =>
  efv prog (Instr.alloc 114 true (.tuple #[])) w fun h_2 w =>
  efu prog (Instr.storeAt 114 h_2 t_1) w fun u_3 w =>
  Calls prog 70 #[] w (Ret fun t_4 w =>
  pv prog (oBi .len #[74] 3 #[false] #[b_p0]) w fun t_5 w =>
  pvv prog (convert 3 94 t_5) w fun t_6 w =>
  pvv prog (binOp .shl 94 t_6 (.int .u64 3)) w fun t_7 w =>
  lp (fun σ w again_9 => pop σ fun b_8 σ => fin σ <|
    pv prog (oBi .len #[74] 3 #[false] #[b_8]) w fun t_10 w =>
    pvv prog (binOp .geq 3 t_10 (.int .i64 64)) w fun t_11 w =>
    cd t_11 (
      ldv prog (Instr.loadAt 114 h_2) w fun t_12 w =>
      Calls prog 71 #[t_12, t_4, b_8] w (Ret fun t_13 w =>
      efu prog (Instr.storeAt 114 h_2 t_13) w fun u_14 w =>
      pvv prog (Instr.sliceAt 74 b_8 (some (.int .i64 64)) none none) w fun t_15 w =>
      again_9 [t_15] w)) <|
    Calls prog 72 #[b_8] w (Ret fun t_16 w =>
    efv prog (Instr.buildSlice 74 1 #[(0, (.int .u8 128))]) w fun t_17 w =>
    ef prog (oBi .append #[74, 74] 74 #[false, false] #[t_16, t_17]) w fun t_18 w =>
    pv prog (oBi .len #[74] 3 #[false] #[b_8]) w fun t_19 w =>
    pvv prog (binOp .sub 3 (.int .i64 119) t_19) w fun t_20 w =>
    pvv prog (binOp .rem 3 t_20 (.int .i64 64)) w fun t_21 w =>
    ef prog (oBi .append #[74, 3] 74 #[false, false] #[t_18, t_21]) w fun t_22 w =>
    lp (fun σ w again_25 => pop σ fun end_23 σ => pop σ fun t_24 σ => fin σ <|
      pvv prog (binOp .lss 3 t_24 (.int .i64 8)) w fun t_26 w =>
      cd t_26 (
        pvv prog (binOp .mul 3 (.int .i64 8) t_24) w fun t_27 w =>
        pvv prog (binOp .sub 3 (.int .i64 56) t_27) w fun t_28 w =>
        pvv prog (binOp .shr 94 t_7 t_28) w fun t_29 w =>
        pvv prog (convert 94 5 t_29) w fun t_30 w =>
        efv prog (Instr.buildSlice 74 1 #[(0, t_30)]) w fun t_31 w =>
        ef prog (oBi .append #[74, 74] 74 #[false, false] #[end_23, t_31]) w fun t_32 w =>
        pvv prog (binOp .add 3 t_24 (.int .i64 1)) w fun t_33 w =>
        again_25 [t_32, t_33] w) <|
      lp (fun σ w again_35 => pop σ fun end_34 σ => fin σ <|
        pv prog (oBi .len #[74] 3 #[false] #[end_34]) w fun t_36 w =>
        pvv prog (binOp .gtr 3 t_36 (.int .i64 0)) w fun t_37 w =>
        cd t_37 (
          ldv prog (Instr.loadAt 114 h_2) w fun t_38 w =>
          Calls prog 71 #[t_38, t_4, end_34] w (Ret fun t_39 w =>
          efu prog (Instr.storeAt 114 h_2 t_39) w fun u_40 w =>
          pvv prog (Instr.sliceAt 74 end_34 (some (.int .i64 64)) none none) w fun t_41 w =>
          again_35 [t_41] w)) <|
        ldv prog (Instr.loadAt 114 h_2) w fun t_42 w =>
        lp (fun σ w again_44 => pop σ fun t_43 σ => fin σ <|
          pvv prog (binOp .lss 3 t_43 (.int .i64 8)) w fun t_45 w =>
          cd t_45 (
            pvv prog (Instr.index 114 t_42 t_43) w fun t_46 w =>
            pvv prog (binOp .mul 3 (.int .i64 4) t_43) w fun t_47 w =>
            pvv prog (binOp .mul 3 (.int .i64 4) t_43) w fun t_48 w =>
            pvv prog (binOp .add 3 t_48 (.int .i64 1)) w fun t_49 w =>
            pvv prog (binOp .mul 3 (.int .i64 4) t_43) w fun t_50 w =>
            pvv prog (binOp .add 3 t_50 (.int .i64 2)) w fun t_51 w =>
            pvv prog (binOp .mul 3 (.int .i64 4) t_43) w fun t_52 w =>
            pvv prog (binOp .add 3 t_52 (.int .i64 3)) w fun t_53 w =>
            pvv prog (binOp .shr 100 t_46 (.int .u64 24)) w fun t_54 w =>
            pvv prog (convert 100 5 t_54) w fun t_55 w =>
            pvv prog (binOp .shr 100 t_46 (.int .u64 16)) w fun t_56 w =>
            pvv prog (convert 100 5 t_56) w fun t_57 w =>
            pvv prog (binOp .shr 100 t_46 (.int .u64 8)) w fun t_58 w =>
            pvv prog (convert 100 5 t_58) w fun t_59 w =>
            pvv prog (convert 100 5 t_46) w fun t_60 w =>
            pvv prog (Instr.indexAt 44 out_0 t_47) w fun t_61 w =>
            efu prog (Instr.storeAt 5 t_61 t_55) w fun u_62 w =>
            pvv prog (Instr.indexAt 44 out_0 t_49) w fun t_63 w =>
            efu prog (Instr.storeAt 5 t_63 t_57) w fun u_64 w =>
            pvv prog (Instr.indexAt 44 out_0 t_51) w fun t_65 w =>
            efu prog (Instr.storeAt 5 t_65 t_59) w fun u_66 w =>
            pvv prog (Instr.indexAt 44 out_0 t_53) w fun t_67 w =>
            efu prog (Instr.storeAt 5 t_67 t_60) w fun u_68 w =>
            pvv prog (binOp .add 3 t_43 (.int .i64 1)) w fun t_69 w =>
            again_44 [t_69] w) <|
          ldv prog (Instr.loadAt 44 out_0) w fun t_70 w =>
          efu prog (Instr.storeAt 44 out_0 t_70) w fun u_71 w =>
          ∃ r_72, (do loadVar 44 (← asAddr out_0)).run prog w = .ok r_72 w ∧ K r_72 w) [(.int .i64 0)] w) [end_23] w) [t_22, (.int .i64 0)] w)) [b_p0] w)
theorem B57_eq (b_p0 : Value) (w : World) (K : Value → World → Prop) : denFn prog Tryz.f57 T57 [b_p0] w K = B57 b_p0 w K := by kernel_rfl
theorem c57 {b_p0 : Value} {w : World} {K : Value → World → Prop} (h : B57 b_p0 w K) : Calls prog 57 #[b_p0] w (Ret K) :=
  denFn_calls Tryz.func57 T57_ok (Eq.mpr (B57_eq b_p0 w K) h)

-- 6 holdfast/holdfastlaw14.live
def T6 : Ann := (.seq .none (.seq .none (.seq (.seq .none (.seq (.seq .none .none) .none)) (.seq .none (.seq .none (.seq .none (.seq .none (.seq .none .none))))))))
theorem T6_ok : chkFn prog Tryz.f6 T6 = true := by kernel_rfl
def B6 (w : World) (K : Value → World → Prop) : Prop :=
  Calls prog 4 #[] w (Ret fun t_0 w =>
  pvv prog (oEq .eql 25 (.tmp 11) (.const (.pointer none)) t_0 (.pointer none)) w fun t_1 w =>
  cd t_1 (
    K (.bool false) w) <|
  Calls prog 17 #[t_0, (.int .i64 5), (.string ⟨#[108, 111, 103, 105, 110]⟩), (.string ⟨#[116, 47, 117]⟩)] w (Ret fun t_2 w =>
  pvv prog (Instr.extract t_2 0) w fun t_3 w =>
  pvv prog (Instr.extract t_2 1) w fun t_4 w =>
  efv prog (Instr.alloc 56 true (.tuple #[])) w fun x_5 w =>
  efu prog (Instr.storeAt 56 x_5 t_3) w fun u_6 w =>
  Calls prog 18 #[t_0] w (Ret fun t_7 w =>
  pvv prog (Instr.extract t_7 0) w fun t_8 w =>
  pvv prog (Instr.extract t_7 1) w fun t_9 w =>
  efv prog (Instr.alloc 44 true (.tuple #[])) w fun h_10 w =>
  efu prog (Instr.storeAt 44 h_10 t_9) w fun u_11 w =>
  Calls prog 19 #[t_0, (.int .i64 1)] w (Ret fun t_12 w =>
  pvv prog (Instr.extract t_12 0) w fun t_13 w =>
  pvv prog (Instr.extract t_12 1) w fun t_14 w =>
  Calls prog 17 #[t_0, (.int .i64 6), (.string ⟨#[116, 105, 99, 107]⟩), (.string ⟨#[]⟩)] w (Ret fun t_15 w =>
  pvv prog (Instr.extract t_15 0) w fun t_16 w =>
  pvv prog (Instr.extract t_15 1) w fun t_17 w =>
  efv prog (Instr.alloc 56 true (.tuple #[])) w fun y_18 w =>
  efu prog (Instr.storeAt 56 y_18 t_16) w fun u_19 w =>
  pvv prog (oEq .eql 36 (.tmp 33) (.const (.int .i64 0)) t_4 (.int .i64 0)) w fun t_20 w =>
  gate (some (t_20, true)) (fun K => pvv prog (Instr.fieldAt 56 x_5 0) w K) w fun t_21 w =>
  gate (some (t_20, true)) (fun K => ldv prog (Instr.loadAt 3 t_21) w K) w fun t_22 w =>
  gate (some (t_20, true)) (fun K => pvv prog (oEq .eql 3 (.tmp 37) (.const (.int .i64 1)) t_22 (.int .i64 1)) w K) w fun t_23 w =>
  pv prog (oPick t_20 t_23 (.bool false)) w fun t_24 w =>
  gate (some (t_24, true)) (fun K => K t_8 w) w fun t_25 w =>
  gate (some (t_24, true)) (fun K => pvv prog (oEq .eql 3 (.tmp 41) (.const (.int .i64 1)) t_25 (.int .i64 1)) w K) w fun t_26 w =>
  pv prog (oPick t_24 t_26 (.bool false)) w fun t_27 w =>
  gate (some (t_27, true)) (fun K => ldv prog (Instr.loadAt 44 h_10) w K) w fun t_28 w =>
  gate (some (t_27, true)) (fun K => pvv prog (Instr.build 44 #[]) w K) w fun t_29 w =>
  gate (some (t_27, true)) (fun K => pvv prog (oEq .neq 44 (.tmp 45) (.tmp 46) t_28 t_29) w K) w fun t_30 w =>
  pv prog (oPick t_27 t_30 (.bool false)) w fun t_31 w =>
  gate (some (t_31, true)) (fun K => K t_13 w) w fun t_32 w =>
  gate (some (t_31, true)) (fun K => pvv prog (oEq .eql 3 (.tmp 50) (.const (.int .i64 1)) t_32 (.int .i64 1)) w K) w fun t_33 w =>
  pv prog (oPick t_31 t_33 (.bool false)) w fun t_34 w =>
  gate (some (t_34, true)) (fun K => K t_14 w) w fun t_35 w =>
  gate (some (t_34, true)) (fun K => pvv prog (oEq .eql 36 (.tmp 54) (.const (.int .i64 0)) t_35 (.int .i64 0)) w K) w fun t_36 w =>
  pv prog (oPick t_34 t_36 (.bool false)) w fun t_37 w =>
  gate (some (t_37, true)) (fun K => pvv prog (Instr.fieldAt 56 y_18 0) w K) w fun t_38 w =>
  gate (some (t_37, true)) (fun K => ldv prog (Instr.loadAt 3 t_38) w K) w fun t_39 w =>
  gate (some (t_37, true)) (fun K => pvv prog (oEq .eql 3 (.tmp 59) (.const (.int .i64 2)) t_39 (.int .i64 2)) w K) w fun t_40 w =>
  pv prog (oPick t_37 t_40 (.bool false)) w fun t_41 w =>
  gate (some (t_41, true)) (fun K => K t_17 w) w fun t_42 w =>
  gate (some (t_41, true)) (fun K => pvv prog (oEq .eql 36 (.tmp 63) (.const (.int .i64 0)) t_42 (.int .i64 0)) w K) w fun t_43 w =>
  pv prog (oPick t_41 t_43 (.bool false)) w fun t_44 w =>
  gate (some (t_44, true)) (fun K => K t_0 w) w fun t_45 w =>
  gate (some (t_44, true)) (fun K => Calls prog 14 #[t_45] w (Ret K)) w fun t_46 w =>
  gate (some (t_44, true)) (fun K => pvv prog (oEq .eql 36 (.tmp 68) (.const (.int .i64 0)) t_46 (.int .i64 0)) w K) w fun t_47 w =>
  pv prog (oPick t_44 t_47 (.bool false)) w fun t_48 w =>
  K t_48 w)))))
theorem B6_eq (w : World) (K : Value → World → Prop) : denFn prog Tryz.f6 T6 [] w K = B6  w K := by kernel_rfl
theorem c6 {w : World} {K : Value → World → Prop} (h : B6  w K) : Calls prog 6 #[] w (Ret K) :=
  denFn_calls Tryz.func6 T6_ok (Eq.mpr (B6_eq  w K) h)

-- 30 holdfast/holdfastref14.hash
def T30 : Ann := (.seq .none (.seq .none (.seq (.seq .none (.seq (.seq .none .none) .none)) (.seq (.seq .none (.block (.loop 549621596288 [7] (.seq (.seq .none (.seq .none .none)) (.seq (.block .none) .none))))) (.seq .none .none)))))
theorem T30_ok : chkFn prog Tryz.f30 T30 = true := by kernel_rfl
def B30 (r_p0 key_p1 : Value) (w : World) (K : Value → World → Prop) : Prop :=
  efv prog (Instr.box 35 r_p0) w fun r_0 w =>
  efv prog (Instr.alloc 44 true (.tuple #[])) w fun t_1 w =>
  efv prog (Instr.alloc 44 true (.tuple #[])) w fun h_2 w =>
  pvv prog (Instr.fieldAt 35 r_0 0) w fun t_3 w =>
  ldv prog (Instr.loadAt 9 t_3) w fun t_4 w =>
  pvv prog (oEq .neq 9 (.tmp 9) (.tmp 10) t_4 key_p1) w fun t_5 w =>
  gate (some (t_5, false)) (fun K => pvv prog (Instr.fieldAt 35 r_0 1) w K) w fun t_6 w =>
  gate (some (t_5, false)) (fun K => ldv prog (Instr.loadAt 33 t_6) w K) w fun t_7 w =>
  gate (some (t_5, false)) (fun K => pv prog (oBi .len #[33] 3 #[false] #[t_7]) w K) w fun t_8 w =>
  gate (some (t_5, false)) (fun K => pvv prog (oEq .neq 3 (.tmp 15) (.const (.int .i64 1)) t_8 (.int .i64 1)) w K) w fun t_9 w =>
  pv prog (oPick t_5 (.bool true) t_9) w fun t_10 w =>
  gate (some (t_10, false)) (fun K => pvv prog (Instr.fieldAt 35 r_0 1) w K) w fun t_11 w =>
  gate (some (t_10, false)) (fun K => ldv prog (Instr.loadAt 33 t_11) w K) w fun t_12 w =>
  gate (some (t_10, false)) (fun K => pvv prog (Instr.indexAt 33 t_12 (.int .i64 0)) w K) w fun t_13 w =>
  gate (some (t_10, false)) (fun K => ldv prog (Instr.loadAt 9 t_13) w K) w fun t_14 w =>
  gate (some (t_10, false)) (fun K => pv prog (oBi .len #[9] 3 #[false] #[t_14]) w K) w fun t_15 w =>
  gate (some (t_10, false)) (fun K => pvv prog (oEq .neq 3 (.tmp 23) (.const (.int .i64 32)) t_15 (.int .i64 32)) w K) w fun t_16 w =>
  pv prog (oPick t_10 (.bool true) t_16) w fun t_17 w =>
  cd t_17 (
    ldv prog (Instr.loadAt 44 h_2) w fun t_18 w =>
    efu prog (Instr.storeAt 44 t_1 t_18) w fun u_19 w =>
    ∃ r_20, (do loadVar 44 (← asAddr t_1)).run prog w = .ok r_20 w ∧ K (.tuple #[r_20, (.bool false)]) w) <|
  lp (fun σ w again_22 => pop σ fun i_21 σ => fin σ <|
    pvv prog (binOp .lss 3 i_21 (.int .i64 32)) w fun t_23 w =>
    cd t_23 (
      pvv prog (Instr.fieldAt 35 r_0 1) w fun t_24 w =>
      ldv prog (Instr.loadAt 33 t_24) w fun t_25 w =>
      pvv prog (Instr.indexAt 33 t_25 (.int .i64 0)) w fun t_26 w =>
      ldv prog (Instr.loadAt 9 t_26) w fun t_27 w =>
      pvv prog (Instr.index 9 t_27 i_21) w fun t_28 w =>
      pvv prog (Instr.indexAt 44 h_2 i_21) w fun t_29 w =>
      efu prog (Instr.storeAt 5 t_29 t_28) w fun u_30 w =>
      pvv prog (binOp .add 3 i_21 (.int .i64 1)) w fun t_31 w =>
      again_22 [t_31] w) <|
    ldv prog (Instr.loadAt 44 h_2) w fun t_32 w =>
    efu prog (Instr.storeAt 44 t_1 t_32) w fun u_33 w =>
    ∃ r_34, (do loadVar 44 (← asAddr t_1)).run prog w = .ok r_34 w ∧ K (.tuple #[r_34, (.bool true)]) w) [(.int .i64 0)] w
theorem B30_eq (r_p0 key_p1 : Value) (w : World) (K : Value → World → Prop) : denFn prog Tryz.f30 T30 [r_p0, key_p1] w K = B30 r_p0 key_p1 w K := by kernel_rfl
theorem c30 {r_p0 key_p1 : Value} {w : World} {K : Value → World → Prop} (h : B30 r_p0 key_p1 w K) : Calls prog 30 #[r_p0, key_p1] w (Ret K) :=
  denFn_calls Tryz.func30 T30_ok (Eq.mpr (B30_eq r_p0 key_p1 w K) h)

-- 46 (*holdfast/audit.Chain).links$1
def T46 : Ann := (.seq .none (.seq (.seq .none (.seq .none .none)) (.seq .none (.block (.loop 68718952480 [19] (.seq .none (.seq (.seq .none .none) (.seq (.block (.seq .none (.seq (.draw [.op 0 .pure, .op 3 .pure, .op 1 .load, .op 2 .pure, .op 4 .load, .op 5 .load, .op 6 .eff, .op 7 .pure, .op 8 .eff]) (.seq .none (.seq .none .none))))) .none))))))))
theorem T46_ok : chkFn prog Tryz.f46 T46 = true := by kernel_rfl
def B46 (yield_p0 x_p1 : Value) (w : World) (K : Value → World → Prop) : Prop :=
  ldv prog (Instr.loadAt 25 x_p1) w fun t_0 w =>
  pv prog (oNil t_0) w fun t_1 w =>
  pvv prog (Instr.fieldAt 52 t_1 0) w fun t_2 w =>
  ldv prog (Instr.loadAt 50 t_2) w fun t_3 w =>
  efv prog (Instr.alloc 50 true (.tuple #[])) w fun p_4 w =>
  efu prog (Instr.storeAt 50 p_4 t_3) w fun u_5 w =>
  ldv prog (Instr.loadAt 50 p_4) w fun t_6 w =>
  ef prog (oCall yield_p0 #[t_6]) w fun t_7 w =>
  pvv prog (Op.unary .not t_7) w fun t_8 w =>
  cd t_8 (
    K (.tuple #[]) w) <|
  ldv prog (Instr.loadAt 25 x_p1) w fun t_9 w =>
  pv prog (oNil t_9) w fun t_10 w =>
  pvv prog (Instr.fieldAt 52 t_10 4) w fun t_11 w =>
  ldv prog (Instr.loadAt 41 t_11) w fun t_12 w =>
  pv prog (oBi .len #[41] 3 #[false] #[t_12]) w fun t_13 w =>
  lp (fun σ w again_15 => pop σ fun t_14 σ => fin σ <|
    pvv prog (binOp .lss 3 t_14 t_13) w fun t_16 w =>
    cd t_16 (
      pvv prog (Instr.indexAt 41 t_12 t_14) w fun t_17 w =>
      ldv prog (Instr.loadAt 56 t_17) w fun t_18 w =>
      efv prog (Instr.alloc 56 true (.tuple #[])) w fun x_19 w =>
      efu prog (Instr.storeAt 56 x_19 t_18) w fun u_20 w =>
      dr w fun w =>
      pvv prog (Instr.fieldAt 50 p_4 0) w fun t_21 w =>
      pvv prog (Instr.fieldAt 50 p_4 1) w fun t_22 w =>
      bindS (vN (Instr.loadAt 3 t_21)) fun m_24 => ldv prog (Instr.loadAt 3 t_21) w fun t_23 w =>
      pvv prog (binOp .add 3 t_23 (.int .i64 1)) w fun t_25 w =>
      bindS (vN (Instr.loadAt 44 t_22)) fun m_27 => ldv prog (Instr.loadAt 44 t_22) w fun t_26 w =>
      bindS (vN (Instr.loadAt 56 x_19)) fun m_29 => ldv prog (Instr.loadAt 56 x_19) w fun t_28 w =>
      Calls prog 35 #[t_26, t_28] w (Ret fun t_30 w => stay prog none m_24 t_23 w <| 
      pvv prog (Instr.build 50 #[(0, t_25), (1, t_30)]) w fun t_31 w =>
      efu prog (Instr.storeAt 50 p_4 t_31) w fun u_32 w =>
      ldv prog (Instr.loadAt 50 p_4) w fun t_33 w =>
      ef prog (oCall yield_p0 #[t_33]) w fun t_34 w =>
      pvv prog (Op.unary .not t_34) w fun t_35 w =>
      cd t_35 (
        K (.tuple #[]) w) <|
      pvv prog (binOp .add 3 t_14 (.int .i64 1)) w fun t_36 w =>
      again_15 [t_36] w)) <|
    K (.tuple #[]) w) [(.int .i64 0)] w
theorem B46_eq (yield_p0 x_p1 : Value) (w : World) (K : Value → World → Prop) : denFn prog Tryz.f46 T46 [yield_p0, x_p1] w K = B46 yield_p0 x_p1 w K := by kernel_rfl
theorem c46 {yield_p0 x_p1 : Value} {w : World} {K : Value → World → Prop} (h : B46 yield_p0 x_p1 w K) : Calls prog 46 #[yield_p0, x_p1] w (Ret K) :=
  denFn_calls Tryz.func46 T46_ok (Eq.mpr (B46_eq yield_p0 x_p1 w K) h)

-- 95 math/bits.Len64
def T95 : Ann := (.seq .none (.meet 125 [0, 2] (.seq .none (.seq (.seq .none .none) .none)) (.meet 8069 [0, 2] (.seq .none (.seq (.seq .none .none) .none)) (.meet 516101 [0, 2] (.seq .none (.seq (.seq .none .none) .none)) (.seq .none .none)))))
theorem T95_ok : chkFn prog Tryz.f95 T95 = true := by kernel_rfl
def B95 (x_p0 : Value) (w : World) (K : Value → World → Prop) : Prop :=
  jn (fun σ w => pop σ fun x_0 σ => pop σ fun n_1 σ => fin σ <|
    jn (fun σ w => pop σ fun x_2 σ => pop σ fun n_3 σ => fin σ <|
      jn (fun σ w => pop σ fun x_4 σ => pop σ fun n_5 σ => fin σ <|
        pvv prog (convert 94 5 x_4) w fun t_6 w =>
        pvv prog (Instr.index 9 (.string ⟨#[0, 1, 2, 2, 3, 3, 3, 3, 4, 4, 4, 4, 4, 4, 4, 4, 5, 5, 5, 5, 5, 5, 5, 5, 5, 5, 5, 5, 5, 5, 5, 5, 6, 6, 6, 6, 6, 6, 6, 6, 6, 6, 6, 6, 6, 6, 6, 6, 6, 6, 6, 6, 6, 6, 6, 6, 6, 6, 6, 6, 6, 6, 6, 6, 7, 7, 7, 7, 7, 7, 7, 7, 7, 7, 7, 7, 7, 7, 7, 7, 7, 7, 7, 7, 7, 7, 7, 7, 7, 7, 7, 7, 7, 7, 7, 7, 7, 7, 7, 7, 7, 7, 7, 7, 7, 7, 7, 7, 7, 7, 7, 7, 7, 7, 7, 7, 7, 7, 7, 7, 7, 7, 7, 7, 7, 7, 7, 7, 8, 8, 8, 8, 8, 8, 8, 8, 8, 8, 8, 8, 8, 8, 8, 8, 8, 8, 8, 8, 8, 8, 8, 8, 8, 8, 8, 8, 8, 8, 8, 8, 8, 8, 8, 8, 8, 8, 8, 8, 8, 8, 8, 8, 8, 8, 8, 8, 8, 8, 8, 8, 8, 8, 8, 8, 8, 8, 8, 8, 8, 8, 8, 8, 8, 8, 8, 8, 8, 8, 8, 8, 8, 8, 8, 8, 8, 8, 8, 8, 8, 8, 8, 8, 8, 8, 8, 8, 8, 8, 8, 8, 8, 8, 8, 8, 8, 8, 8, 8, 8, 8, 8, 8, 8, 8, 8, 8, 8, 8, 8, 8, 8, 8, 8, 8, 8, 8, 8, 8, 8, 8, 8, 8, 8, 8, 8, 8]⟩) t_6) w fun t_7 w =>
        pvv prog (convert 5 3 t_7) w fun t_8 w =>
        pvv prog (binOp .add 3 n_5 t_8) w fun t_9 w =>
        K t_9 w) fun k_10 =>
      pvv prog (binOp .geq 94 x_2 (.int .u64 256)) w fun t_11 w =>
      cd t_11 (
        pvv prog (binOp .shr 94 x_2 (.int .u64 8)) w fun t_12 w =>
        pvv prog (binOp .add 3 n_3 (.int .i64 8)) w fun t_13 w =>
        k_10 [t_12, t_13] w) <|
      k_10 [x_2, n_3] w) fun k_14 =>
    pvv prog (binOp .geq 94 x_0 (.int .u64 65536)) w fun t_15 w =>
    cd t_15 (
      pvv prog (binOp .shr 94 x_0 (.int .u64 16)) w fun t_16 w =>
      pvv prog (binOp .add 3 n_1 (.int .i64 16)) w fun t_17 w =>
      k_14 [t_16, t_17] w) <|
    k_14 [x_0, n_1] w) fun k_18 =>
  pvv prog (binOp .geq 94 x_p0 (.int .u64 4294967296)) w fun t_19 w =>
  cd t_19 (
    pvv prog (binOp .shr 94 x_p0 (.int .u64 32)) w fun t_20 w =>
    k_18 [t_20, (.int .i64 32)] w) <|
  k_18 [x_p0, (.int .i64 0)] w
theorem B95_eq (x_p0 : Value) (w : World) (K : Value → World → Prop) : denFn prog Tryz.f95 T95 [x_p0] w K = B95 x_p0 w K := by kernel_rfl
theorem c95 {x_p0 : Value} {w : World} {K : Value → World → Prop} (h : B95 x_p0 w K) : Calls prog 95 #[x_p0] w (Ret K) :=
  denFn_calls Tryz.func95 T95_ok (Eq.mpr (B95_eq x_p0 w K) h)

-- 70 holdfast/hash.rounds
def T70 : Ann := (.seq .none (.seq .none .none))
theorem T70_ok : chkFn prog Tryz.f70 T70 = true := by kernel_rfl
def B70 (w : World) (K : Value → World → Prop) : Prop :=
  pvv prog (Instr.build 134 #[(0, (.int .u32 1116352408)), (1, (.int .u32 1899447441)), (2, (.int .u32 3049323471)), (3, (.int .u32 3921009573)), (4, (.int .u32 961987163)), (5, (.int .u32 1508970993)), (6, (.int .u32 2453635748)), (7, (.int .u32 2870763221)), (8, (.int .u32 3624381080)), (9, (.int .u32 310598401)), (10, (.int .u32 607225278)), (11, (.int .u32 1426881987)), (12, (.int .u32 1925078388)), (13, (.int .u32 2162078206)), (14, (.int .u32 2614888103)), (15, (.int .u32 3248222580)), (16, (.int .u32 3835390401)), (17, (.int .u32 4022224774)), (18, (.int .u32 264347078)), (19, (.int .u32 604807628)), (20, (.int .u32 770255983)), (21, (.int .u32 1249150122)), (22, (.int .u32 1555081692)), (23, (.int .u32 1996064986)), (24, (.int .u32 2554220882)), (25, (.int .u32 2821834349)), (26, (.int .u32 2952996808)), (27, (.int .u32 3210313671)), (28, (.int .u32 3336571891)), (29, (.int .u32 3584528711)), (30, (.int .u32 113926993)), (31, (.int .u32 338241895)), (32, (.int .u32 666307205)), (33, (.int .u32 773529912)), (34, (.int .u32 1294757372)), (35, (.int .u32 1396182291)), (36, (.int .u32 1695183700)), (37, (.int .u32 1986661051)), (38, (.int .u32 2177026350)), (39, (.int .u32 2456956037)), (40, (.int .u32 2730485921)), (41, (.int .u32 2820302411)), (42, (.int .u32 3259730800)), (43, (.int .u32 3345764771)), (44, (.int .u32 3516065817)), (45, (.int .u32 3600352804)), (46, (.int .u32 4094571909)), (47, (.int .u32 275423344)), (48, (.int .u32 430227734)), (49, (.int .u32 506948616)), (50, (.int .u32 659060556)), (51, (.int .u32 883997877)), (52, (.int .u32 958139571)), (53, (.int .u32 1322822218)), (54, (.int .u32 1537002063)), (55, (.int .u32 1747873779)), (56, (.int .u32 1955562222)), (57, (.int .u32 2024104815)), (58, (.int .u32 2227730452)), (59, (.int .u32 2361852424)), (60, (.int .u32 2428436474)), (61, (.int .u32 2756734187)), (62, (.int .u32 3204031479)), (63, (.int .u32 3329325298))]) w fun t_0 w =>
  efv prog (Instr.box 134 t_0) w fun t_1 w =>
  K t_1 w
theorem B70_eq (w : World) (K : Value → World → Prop) : denFn prog Tryz.f70 T70 [] w K = B70  w K := by kernel_rfl
theorem c70 {w : World} {K : Value → World → Prop} (h : B70  w K) : Calls prog 70 #[] w (Ret K) :=
  denFn_calls Tryz.func70 T70_ok (Eq.mpr (B70_eq  w K) h)

-- 21 (*holdfast/holdfastref14.Chain).Anchor
def T21 : Ann := (.seq .none (.seq (.seq .none (.seq (.seq .none .none) .none)) (.seq (.draw [.op 0 .pure, .op 1 .pure, .op 2 .pure, .op 4 .pure, .op 5 .pure, .op 6 .pure, .op 7 .load, .op 3 .eff, .op 8 .pure, .op 9 .pure, .op 10 .eff, .op 11 .pure, .op 12 .pure, .op 13 .eff]) (.seq (.draw [.op 0 .pure, .op 1 .pure, .op 2 .pure, .op 4 .pure, .op 5 .pure, .op 6 .pure, .op 3 .load, .op 8 .pure, .op 7 .load, .op 9 .eff]) .none))))
theorem T21_ok : chkFn prog Tryz.f21 T21 = true := by kernel_rfl
def B21 (c_p0 : Value) (w : World) (K : Value → World → Prop) : Prop :=
  efv prog (Instr.alloc 44 true (.tuple #[])) w fun t_0 w =>
  pvv prog (oEq .eql 27 (.tmp 4) (.const (.pointer none)) c_p0 (.pointer none)) w fun t_1 w =>
  cd t_1 (
    pvv prog (Instr.build 44 #[]) w fun t_2 w =>
    efu prog (Instr.storeAt 44 t_0 t_2) w fun u_3 w =>
    ∃ r_4, (do loadVar 44 (← asAddr t_0)).run prog w = .ok r_4 w ∧ K (.tuple #[(.int .i64 0), r_4]) w) <|
  dr w fun w =>
  pv prog (oNil c_p0) w fun t_5 w =>
  pvv prog (Instr.fieldAt 54 t_5 5) w fun t_6 w =>
  bindS (vN (Instr.loadAt 44 t_6)) fun m_8 => ldv prog (Instr.loadAt 44 t_6) w fun t_7 w =>
  Calls prog 38 #[c_p0] w (Ret fun t_9 w => stay prog none m_8 t_7 w <| 
  pv prog (oNil c_p0) w fun t_10 w =>
  pvv prog (Instr.fieldAt 54 t_10 1) w fun t_11 w =>
  efu prog (Instr.storeAt 3 t_11 t_9) w fun u_12 w =>
  pv prog (oNil c_p0) w fun t_13 w =>
  pvv prog (Instr.fieldAt 54 t_13 4) w fun t_14 w =>
  efu prog (Instr.storeAt 44 t_14 t_7) w fun u_15 w =>
  dr w fun w =>
  pv prog (oNil c_p0) w fun t_16 w =>
  pvv prog (Instr.fieldAt 54 t_16 1) w fun t_17 w =>
  pv prog (oNil c_p0) w fun t_18 w =>
  pvv prog (Instr.fieldAt 54 t_18 4) w fun t_19 w =>
  bindS (vN (Instr.loadAt 3 t_17)) fun m_21 => ldv prog (Instr.loadAt 3 t_17) w fun t_20 w =>
  bindS (vN (Instr.loadAt 44 t_19)) fun m_23 => ldv prog (Instr.loadAt 44 t_19) w fun t_22 w =>
  efu prog (Instr.storeAt 44 t_0 t_22) w fun u_24 w =>
  ∃ r_25, (do loadVar 44 (← asAddr t_0)).run prog w = .ok r_25 w ∧ K (.tuple #[t_20, r_25]) w)
theorem B21_eq (c_p0 : Value) (w : World) (K : Value → World → Prop) : denFn prog Tryz.f21 T21 [c_p0] w K = B21 c_p0 w K := by kernel_rfl
theorem c21 {c_p0 : Value} {w : World} {K : Value → World → Prop} (h : B21 c_p0 w K) : Calls prog 21 #[c_p0] w (Ret K) :=
  denFn_calls Tryz.func21 T21_ok (Eq.mpr (B21_eq c_p0 w K) h)

-- 83 internal/strconv.small
def T83 : Ann := (.seq .none (.seq (.seq .none (.seq (.seq .none .none) .none)) (.seq .none .none)))
theorem T83_ok : chkFn prog Tryz.f83 T83 = true := by kernel_rfl
def B83 (i_p0 : Value) (w : World) (K : Value → World → Prop) : Prop :=
  pvv prog (binOp .lss 3 i_p0 (.int .i64 10)) w fun t_0 w =>
  cd t_0 (
    pvv prog (binOp .add 3 i_p0 (.int .i64 1)) w fun t_1 w =>
    pvv prog (Instr.sliceAt 9 (.string ⟨#[48, 49, 50, 51, 52, 53, 54, 55, 56, 57, 97, 98, 99, 100, 101, 102, 103, 104, 105, 106, 107, 108, 109, 110, 111, 112, 113, 114, 115, 116, 117, 118, 119, 120, 121, 122]⟩) (some i_p0) (some t_1) none) w fun t_2 w =>
    K t_2 w) <|
  pvv prog (binOp .mul 3 i_p0 (.int .i64 2)) w fun t_3 w =>
  pvv prog (binOp .mul 3 i_p0 (.int .i64 2)) w fun t_4 w =>
  pvv prog (binOp .add 3 t_4 (.int .i64 2)) w fun t_5 w =>
  pvv prog (Instr.sliceAt 9 (.string ⟨#[48, 48, 48, 49, 48, 50, 48, 51, 48, 52, 48, 53, 48, 54, 48, 55, 48, 56, 48, 57, 49, 48, 49, 49, 49, 50, 49, 51, 49, 52, 49, 53, 49, 54, 49, 55, 49, 56, 49, 57, 50, 48, 50, 49, 50, 50, 50, 51, 50, 52, 50, 53, 50, 54, 50, 55, 50, 56, 50, 57, 51, 48, 51, 49, 51, 50, 51, 51, 51, 52, 51, 53, 51, 54, 51, 55, 51, 56, 51, 57, 52, 48, 52, 49, 52, 50, 52, 51, 52, 52, 52, 53, 52, 54, 52, 55, 52, 56, 52, 57, 53, 48, 53, 49, 53, 50, 53, 51, 53, 52, 53, 53, 53, 54, 53, 55, 53, 56, 53, 57, 54, 48, 54, 49, 54, 50, 54, 51, 54, 52, 54, 53, 54, 54, 54, 55, 54, 56, 54, 57, 55, 48, 55, 49, 55, 50, 55, 51, 55, 52, 55, 53, 55, 54, 55, 55, 55, 56, 55, 57, 56, 48, 56, 49, 56, 50, 56, 51, 56, 52, 56, 53, 56, 54, 56, 55, 56, 56, 56, 57, 57, 48, 57, 49, 57, 50, 57, 51, 57, 52, 57, 53, 57, 54, 57, 55, 57, 56, 57, 57]⟩) (some t_3) (some t_5) none) w fun t_6 w =>
  K t_6 w
theorem B83_eq (i_p0 : Value) (w : World) (K : Value → World → Prop) : denFn prog Tryz.f83 T83 [i_p0] w K = B83 i_p0 w K := by kernel_rfl
theorem c83 {i_p0 : Value} {w : World} {K : Value → World → Prop} (h : B83 i_p0 w K) : Calls prog 83 #[i_p0] w (Ret K) :=
  denFn_calls Tryz.func83 T83_ok (Eq.mpr (B83_eq i_p0 w K) h)

-- 36 (*holdfast/audit.Chain).Anchored
def T36 : Ann := (.seq .none (.seq (.seq .none (.seq (.seq .none .none) .none)) (.seq (.draw [.op 0 .pure, .op 1 .pure, .op 2 .pure, .op 3 .pure, .op 5 .pure, .op 6 .pure, .op 7 .pure, .op 8 .pure, .op 4 .load, .op 10 .pure, .op 9 .load, .op 11 .eff]) .none)))
theorem T36_ok : chkFn prog Tryz.f36 T36 = true := by kernel_rfl
def B36 (c_p0 : Value) (w : World) (K : Value → World → Prop) : Prop :=
  efv prog (Instr.alloc 44 true (.tuple #[])) w fun t_0 w =>
  pvv prog (oEq .eql 25 (.tmp 4) (.const (.pointer none)) c_p0 (.pointer none)) w fun t_1 w =>
  cd t_1 (
    pvv prog (Instr.build 44 #[]) w fun t_2 w =>
    efu prog (Instr.storeAt 44 t_0 t_2) w fun u_3 w =>
    ∃ r_4, (do loadVar 44 (← asAddr t_0)).run prog w = .ok r_4 w ∧ K (.tuple #[(.int .i64 0), r_4]) w) <|
  dr w fun w =>
  pv prog (oNil c_p0) w fun t_5 w =>
  pvv prog (Instr.fieldAt 52 t_5 1) w fun t_6 w =>
  pvv prog (Instr.fieldAt 50 t_6 0) w fun t_7 w =>
  pv prog (oNil c_p0) w fun t_8 w =>
  pvv prog (Instr.fieldAt 52 t_8 1) w fun t_9 w =>
  pvv prog (Instr.fieldAt 50 t_9 1) w fun t_10 w =>
  bindS (vN (Instr.loadAt 3 t_7)) fun m_12 => ldv prog (Instr.loadAt 3 t_7) w fun t_11 w =>
  bindS (vN (Instr.loadAt 44 t_10)) fun m_14 => ldv prog (Instr.loadAt 44 t_10) w fun t_13 w =>
  efu prog (Instr.storeAt 44 t_0 t_13) w fun u_15 w =>
  ∃ r_16, (do loadVar 44 (← asAddr t_0)).run prog w = .ok r_16 w ∧ K (.tuple #[t_11, r_16]) w
theorem B36_eq (c_p0 : Value) (w : World) (K : Value → World → Prop) : denFn prog Tryz.f36 T36 [c_p0] w K = B36 c_p0 w K := by kernel_rfl
theorem c36 {c_p0 : Value} {w : World} {K : Value → World → Prop} (h : B36 c_p0 w K) : Calls prog 36 #[c_p0] w (Ret K) :=
  denFn_calls Tryz.func36 T36_ok (Eq.mpr (B36_eq c_p0 w K) h)

-- 63 strings.trimRightASCII
def T63 : Ann := (.seq .none (.meet 2097121 [0] (.block (.loop 2097121 [0] (.seq (.seq .none (.seq .none .none)) (.block (.seq (.seq .none (.seq .none .none)) .none))))) (.seq .none .none)))
theorem T63_ok : chkFn prog Tryz.f63 T63 = true := by kernel_rfl
def B63 (s_p0 as_p1 : Value) (w : World) (K : Value → World → Prop) : Prop :=
  jn (fun σ w => pop σ fun s_0 σ => fin σ <|
    K s_0 w) fun k_1 =>
  lp (fun σ w again_3 => pop σ fun s_2 σ => fin σ <|
    pv prog (oBi .len #[9] 3 #[false] #[s_2]) w fun t_4 w =>
    pvv prog (binOp .gtr 3 t_4 (.int .i64 0)) w fun t_5 w =>
    cd t_5 (
      pv prog (oBi .len #[9] 3 #[false] #[s_2]) w fun t_6 w =>
      pvv prog (binOp .sub 3 t_6 (.int .i64 1)) w fun t_7 w =>
      pvv prog (Instr.index 9 s_2 t_7) w fun t_8 w =>
      Calls prog 73 #[as_p1, t_8] w (Ret fun t_9 w =>
      pvv prog (Op.unary .not t_9) w fun t_10 w =>
      cd t_10 (
        k_1 [s_2] w) <|
      pv prog (oBi .len #[9] 3 #[false] #[s_2]) w fun t_11 w =>
      pvv prog (binOp .sub 3 t_11 (.int .i64 1)) w fun t_12 w =>
      pvv prog (Instr.sliceAt 9 s_2 none (some t_12) none) w fun t_13 w =>
      again_3 [t_13] w)) <|
    k_1 [s_2] w) [s_p0] w
theorem B63_eq (s_p0 as_p1 : Value) (w : World) (K : Value → World → Prop) : denFn prog Tryz.f63 T63 [s_p0, as_p1] w K = B63 s_p0 as_p1 w K := by kernel_rfl
theorem c63 {s_p0 as_p1 : Value} {w : World} {K : Value → World → Prop} (h : B63 s_p0 as_p1 w K) : Calls prog 63 #[s_p0, as_p1] w (Ret K) :=
  denFn_calls Tryz.func63 T63_ok (Eq.mpr (B63_eq s_p0 as_p1 w K) h)

-- 59 strings.trimLeftByte
def T59 : Ann := (.seq .none (.seq (.block (.loop 65505 [0] (.seq (.seq .none (.seq .none .none)) (.block .none)))) (.seq .none .none)))
theorem T59_ok : chkFn prog Tryz.f59 T59 = true := by kernel_rfl
def B59 (s_p0 c_p1 : Value) (w : World) (K : Value → World → Prop) : Prop :=
  lp (fun σ w again_1 => pop σ fun s_0 σ => fin σ <|
    pv prog (oBi .len #[9] 3 #[false] #[s_0]) w fun t_2 w =>
    pvv prog (binOp .gtr 3 t_2 (.int .i64 0)) w fun t_3 w =>
    gate (some (t_3, true)) (fun K => K s_0 w) w fun t_4 w =>
    gate (some (t_3, true)) (fun K => pvv prog (Instr.index 9 t_4 (.int .i64 0)) w K) w fun t_5 w =>
    gate (some (t_3, true)) (fun K => K c_p1 w) w fun t_6 w =>
    gate (some (t_3, true)) (fun K => pvv prog (oEq .eql 5 (.tmp 10) (.tmp 11) t_5 t_6) w K) w fun t_7 w =>
    pv prog (oPick t_3 t_7 (.bool false)) w fun t_8 w =>
    cd t_8 (
      pvv prog (Instr.sliceAt 9 s_0 (some (.int .i64 1)) none none) w fun t_9 w =>
      again_1 [t_9] w) <|
    K s_0 w) [s_p0] w
theorem B59_eq (s_p0 c_p1 : Value) (w : World) (K : Value → World → Prop) : denFn prog Tryz.f59 T59 [s_p0, c_p1] w K = B59 s_p0 c_p1 w K := by kernel_rfl
theorem c59 {s_p0 c_p1 : Value} {w : World} {K : Value → World → Prop} (h : B59 s_p0 c_p1 w K) : Calls prog 59 #[s_p0, c_p1] w (Ret K) :=
  denFn_calls Tryz.func59 T59_ok (Eq.mpr (B59_eq s_p0 c_p1 w K) h)

-- 100 unicode/utf8.ValidRune
def T100 : Ann := (.seq .none (.seq (.block (.seq .none (.seq (.seq .none .none) (.seq .none (.seq (.seq .none .none) .none))))) (.seq .none .none)))
theorem T100_ok : chkFn prog Tryz.f100 T100 = true := by kernel_rfl
def B100 (r_p0 : Value) (w : World) (K : Value → World → Prop) : Prop :=
  pvv prog (binOp .leq 21 (.int .i32 0) r_p0) w fun t_0 w =>
  gate (some (t_0, true)) (fun K => K r_p0 w) w fun t_1 w =>
  gate (some (t_0, true)) (fun K => pvv prog (binOp .lss 21 t_1 (.int .i32 55296)) w K) w fun t_2 w =>
  pv prog (oPick t_0 t_2 (.bool false)) w fun t_3 w =>
  cd t_3 (
    K (.bool true) w) <|
  pvv prog (binOp .lss 21 (.int .i32 57343) r_p0) w fun t_4 w =>
  gate (some (t_4, true)) (fun K => K r_p0 w) w fun t_5 w =>
  gate (some (t_4, true)) (fun K => pvv prog (binOp .leq 21 t_5 (.int .i32 1114111)) w K) w fun t_6 w =>
  pv prog (oPick t_4 t_6 (.bool false)) w fun t_7 w =>
  cd t_7 (
    K (.bool true) w) <|
  K (.bool false) w
theorem B100_eq (r_p0 : Value) (w : World) (K : Value → World → Prop) : denFn prog Tryz.f100 T100 [r_p0] w K = B100 r_p0 w K := by kernel_rfl
theorem c100 {r_p0 : Value} {w : World} {K : Value → World → Prop} (h : B100 r_p0 w K) : Calls prog 100 #[r_p0] w (Ret K) :=
  denFn_calls Tryz.func100 T100_ok (Eq.mpr (B100_eq r_p0 w K) h)

-- 16 (*holdfast/audit.Chain).Head
def T16 : Ann := (.seq .none (.seq (.seq .none (.seq (.seq .none .none) .none)) (.seq .none .none)))
theorem T16_ok : chkFn prog Tryz.f16 T16 = true := by kernel_rfl
def B16 (c_p0 : Value) (w : World) (K : Value → World → Prop) : Prop :=
  efv prog (Instr.alloc 44 true (.tuple #[])) w fun t_0 w =>
  pvv prog (oEq .eql 25 (.tmp 3) (.const (.pointer none)) c_p0 (.pointer none)) w fun t_1 w =>
  cd t_1 (
    pvv prog (Instr.build 44 #[]) w fun t_2 w =>
    efu prog (Instr.storeAt 44 t_0 t_2) w fun u_3 w =>
    ∃ r_4, (do loadVar 44 (← asAddr t_0)).run prog w = .ok r_4 w ∧ K r_4 w) <|
  pv prog (oNil c_p0) w fun t_5 w =>
  pvv prog (Instr.fieldAt 52 t_5 2) w fun t_6 w =>
  ldv prog (Instr.loadAt 44 t_6) w fun t_7 w =>
  efu prog (Instr.storeAt 44 t_0 t_7) w fun u_8 w =>
  ∃ r_9, (do loadVar 44 (← asAddr t_0)).run prog w = .ok r_9 w ∧ K r_9 w
theorem B16_eq (c_p0 : Value) (w : World) (K : Value → World → Prop) : denFn prog Tryz.f16 T16 [c_p0] w K = B16 c_p0 w K := by kernel_rfl
theorem c16 {c_p0 : Value} {w : World} {K : Value → World → Prop} (h : B16 c_p0 w K) : Calls prog 16 #[c_p0] w (Ret K) :=
  denFn_calls Tryz.func16 T16_ok (Eq.mpr (B16_eq c_p0 w K) h)

-- 82 strconv.bitSizeError
def T82 : Ann := (.seq .none (.seq .none .none))
theorem T82_ok : chkFn prog Tryz.f82 T82 = true := by kernel_rfl
def B82 (fn_p0 str_p1 bitSize_p2 : Value) (w : World) (K : Value → World → Prop) : Prop :=
  Calls prog 91 #[str_p1] w (Ret fun t_0 w =>
  Calls prog 93 #[bitSize_p2] w (Ret fun t_1 w =>
  pvv prog (binOp .add 9 (.string ⟨#[105, 110, 118, 97, 108, 105, 100, 32, 98, 105, 116, 32, 115, 105, 122, 101, 32]⟩) t_1) w fun t_2 w =>
  Calls prog 92 #[t_2] w (Ret fun t_3 w =>
  pvv prog (Instr.build 138 #[(0, fn_p0), (1, t_0), (2, t_3)]) w fun t_4 w =>
  efv prog (Instr.box 138 t_4) w fun t_5 w =>
  K t_5 w)))
theorem B82_eq (fn_p0 str_p1 bitSize_p2 : Value) (w : World) (K : Value → World → Prop) : denFn prog Tryz.f82 T82 [fn_p0, str_p1, bitSize_p2] w K = B82 fn_p0 str_p1 bitSize_p2 w K := by kernel_rfl
theorem c82 {fn_p0 str_p1 bitSize_p2 : Value} {w : World} {K : Value → World → Prop} (h : B82 fn_p0 str_p1 bitSize_p2 w K) : Calls prog 82 #[fn_p0, str_p1, bitSize_p2] w (Ret K) :=
  denFn_calls Tryz.func82 T82_ok (Eq.mpr (B82_eq fn_p0 str_p1 bitSize_p2 w K) h)

-- 11 (*holdfast/holdfastref14.Chain).Events
def T11 : Ann := (.seq .none (.seq .none (.meet 4088 [3] (.seq .none (.seq .none .none)) (.seq .none .none))))
theorem T11_ok : chkFn prog Tryz.f11 T11 = true := by kernel_rfl
def B11 (c_p0 : Value) (w : World) (K : Value → World → Prop) : Prop :=
  jn (fun σ w => pop σ fun out_0 σ => fin σ <|
    K out_0 w) fun k_1 =>
  pvv prog (oEq .neq 27 (.tmp 4) (.const (.pointer none)) c_p0 (.pointer none)) w fun t_2 w =>
  cd t_2 (
    pv prog (oNil c_p0) w fun t_3 w =>
    pvv prog (Instr.fieldAt 54 t_3 6) w fun t_4 w =>
    ldv prog (Instr.loadAt 41 t_4) w fun t_5 w =>
    ef prog (oBi .append #[41, 41] 41 #[false, false] #[(.slice none 0 0), t_5]) w fun t_6 w =>
    k_1 [t_6] w) <|
  k_1 [(.slice none 0 0)] w
theorem B11_eq (c_p0 : Value) (w : World) (K : Value → World → Prop) : denFn prog Tryz.f11 T11 [c_p0] w K = B11 c_p0 w K := by kernel_rfl
theorem c11 {c_p0 : Value} {w : World} {K : Value → World → Prop} (h : B11 c_p0 w K) : Calls prog 11 #[c_p0] w (Ret K) :=
  denFn_calls Tryz.func11 T11_ok (Eq.mpr (B11_eq c_p0 w K) h)

-- 56 holdfast/holdfastref07.turn
def T56 : Ann := (.seq .none (.seq (.draw [.op 0 .pure, .op 1 .pure, .op 2 .pure, .op 3 .pure, .op 4 .pure, .op 5 .pure, .op 6 .pure, .op 7 .pure, .op 8 .pure]) .none))
theorem T56_ok : chkFn prog Tryz.f56 T56 = true := by kernel_rfl
def B56 (x_p0 n_p1 : Value) (w : World) (K : Value → World → Prop) : Prop :=
  dr w fun w =>
  pvv prog (binOp .shr 100 x_p0 n_p1) w fun t_0 w =>
  pvv prog (binOp .sub 3 (.int .i64 32) n_p1) w fun t_1 w =>
  pvv prog (binOp .shl 100 x_p0 t_1) w fun t_2 w =>
  pvv prog (binOp .or 100 t_0 t_2) w fun t_3 w =>
  K t_3 w
theorem B56_eq (x_p0 n_p1 : Value) (w : World) (K : Value → World → Prop) : denFn prog Tryz.f56 T56 [x_p0, n_p1] w K = B56 x_p0 n_p1 w K := by kernel_rfl
theorem c56 {x_p0 n_p1 : Value} {w : World} {K : Value → World → Prop} (h : B56 x_p0 n_p1 w K) : Calls prog 56 #[x_p0, n_p1] w (Ret K) :=
  denFn_calls Tryz.func56 T56_ok (Eq.mpr (B56_eq x_p0 n_p1 w K) h)

-- 37 slices.Clone[[]holdfast/api.Event,holdfast/api.Event]
def T37 : Ann := (.seq .none (.seq (.seq .none (.seq (.seq .none .none) .none)) (.seq .none .none)))
theorem T37_ok : chkFn prog Tryz.f37 T37 = true := by kernel_rfl
def B37 (s_p0 : Value) (w : World) (K : Value → World → Prop) : Prop :=
  pvv prog (oEq .eql 41 (.tmp 3) (.const (.slice none 0 0)) s_p0 (.slice none 0 0)) w fun t_0 w =>
  cd t_0 (
    K (.slice none 0 0) w) <|
  efv prog (Instr.buildSlice 41 0 #[]) w fun t_1 w =>
  ef prog (oBi .append #[41, 41] 41 #[false, false] #[t_1, s_p0]) w fun t_2 w =>
  K t_2 w
theorem B37_eq (s_p0 : Value) (w : World) (K : Value → World → Prop) : denFn prog Tryz.f37 T37 [s_p0] w K = B37 s_p0 w K := by kernel_rfl
theorem c37 {s_p0 : Value} {w : World} {K : Value → World → Prop} (h : B37 s_p0 w K) : Calls prog 37 #[s_p0] w (Ret K) :=
  denFn_calls Tryz.func37 T37_ok (Eq.mpr (B37_eq s_p0 w K) h)

-- 24 holdfast/holdfastref14.text
def T24 : Ann := (.seq .none (.seq .none .none))
theorem T24_ok : chkFn prog Tryz.f24 T24 = true := by kernel_rfl
def B24 (h_p0 : Value) (w : World) (K : Value → World → Prop) : Prop :=
  efv prog (Instr.box 44 h_p0) w fun h_0 w =>
  ldv prog (Instr.loadAt 44 h_0) w fun t_1 w =>
  Calls prog 40 #[t_1] w (Ret fun t_2 w =>
  efv prog (convert 74 9 t_2) w fun t_3 w =>
  K t_3 w)
theorem B24_eq (h_p0 : Value) (w : World) (K : Value → World → Prop) : denFn prog Tryz.f24 T24 [h_p0] w K = B24 h_p0 w K := by kernel_rfl
theorem c24 {h_p0 : Value} {w : World} {K : Value → World → Prop} (h : B24 h_p0 w K) : Calls prog 24 #[h_p0] w (Ret K) :=
  denFn_calls Tryz.func24 T24_ok (Eq.mpr (B24_eq h_p0 w K) h)

-- 90 unicode/utf8.RuneStart
def T90 : Ann := (.seq .none (.seq .none .none))
theorem T90_ok : chkFn prog Tryz.f90 T90 = true := by kernel_rfl
def B90 (b_p0 : Value) (w : World) (K : Value → World → Prop) : Prop :=
  pvv prog (binOp .and 5 b_p0 (.int .u8 192)) w fun t_0 w =>
  pvv prog (oEq .neq 5 (.tmp 4) (.const (.int .u8 128)) t_0 (.int .u8 128)) w fun t_1 w =>
  K t_1 w
theorem B90_eq (b_p0 : Value) (w : World) (K : Value → World → Prop) : denFn prog Tryz.f90 T90 [b_p0] w K = B90 b_p0 w K := by kernel_rfl
theorem c90 {b_p0 : Value} {w : World} {K : Value → World → Prop} (h : B90 b_p0 w K) : Calls prog 90 #[b_p0] w (Ret K) :=
  denFn_calls Tryz.func90 T90_ok (Eq.mpr (B90_eq b_p0 w K) h)

-- 101 internal/bytealg.Cutover
def T101 : Ann := (.seq .none (.seq .none .none))
theorem T101_ok : chkFn prog Tryz.f101 T101 = true := by kernel_rfl
def B101 (n_p0 : Value) (w : World) (K : Value → World → Prop) : Prop :=
  pvv prog (binOp .add 3 n_p0 (.int .i64 16)) w fun t_0 w =>
  pvv prog (binOp .quo 3 t_0 (.int .i64 8)) w fun t_1 w =>
  K t_1 w
theorem B101_eq (n_p0 : Value) (w : World) (K : Value → World → Prop) : denFn prog Tryz.f101 T101 [n_p0] w K = B101 n_p0 w K := by kernel_rfl
theorem c101 {n_p0 : Value} {w : World} {K : Value → World → Prop} (h : B101 n_p0 w K) : Calls prog 101 #[n_p0] w (Ret K) :=
  denFn_calls Tryz.func101 T101_ok (Eq.mpr (B101_eq n_p0 w K) h)

-- 33 (*holdfast/audit.Chain).links
def T33 : Ann := (.seq .none (.seq .none .none))
theorem T33_ok : chkFn prog Tryz.f33 T33 = true := by kernel_rfl
def B33 (c_p0 : Value) (w : World) (K : Value → World → Prop) : Prop :=
  efv prog (Instr.box 25 c_p0) w fun c_0 w =>
  pvv prog (Instr.makeFunc (.func 46) #[] #[c_0]) w fun t_1 w =>
  K t_1 w
theorem B33_eq (c_p0 : Value) (w : World) (K : Value → World → Prop) : denFn prog Tryz.f33 T33 [c_p0] w K = B33 c_p0 w K := by kernel_rfl
theorem c33 {c_p0 : Value} {w : World} {K : Value → World → Prop} (h : B33 c_p0 w K) : Calls prog 33 #[c_p0] w (Ret K) :=
  denFn_calls Tryz.func33 T33_ok (Eq.mpr (B33_eq c_p0 w K) h)

-- 54 strconv.FormatInt
def T54 : Ann := (.seq .none (.seq .none .none))
theorem T54_ok : chkFn prog Tryz.f54 T54 = true := by kernel_rfl
def B54 (i_p0 base_p1 : Value) (w : World) (K : Value → World → Prop) : Prop :=
  Calls prog 69 #[i_p0, base_p1] w (Ret fun t_0 w =>
  K t_0 w)
theorem B54_eq (i_p0 base_p1 : Value) (w : World) (K : Value → World → Prop) : denFn prog Tryz.f54 T54 [i_p0, base_p1] w K = B54 i_p0 base_p1 w K := by kernel_rfl
theorem c54 {i_p0 base_p1 : Value} {w : World} {K : Value → World → Prop} (h : B54 i_p0 base_p1 w K) : Calls prog 54 #[i_p0, base_p1] w (Ret K) :=
  denFn_calls Tryz.func54 T54_ok (Eq.mpr (B54_eq i_p0 base_p1 w K) h)

-- 4 holdfast/audit.New
def T4 : Ann := (.seq .none (.seq .none .none))
theorem T4_ok : chkFn prog Tryz.f4 T4 = true := by kernel_rfl
def B4 (w : World) (K : Value → World → Prop) : Prop :=
  pvv prog (Instr.build 52 #[]) w fun t_0 w =>
  efv prog (Instr.box 52 t_0) w fun t_1 w =>
  K t_1 w
theorem B4_eq (w : World) (K : Value → World → Prop) : denFn prog Tryz.f4 T4 [] w K = B4  w K := by kernel_rfl
theorem c4 {w : World} {K : Value → World → Prop} (h : B4  w K) : Calls prog 4 #[] w (Ret K) :=
  denFn_calls Tryz.func4 T4_ok (Eq.mpr (B4_eq  w K) h)


end Go.Proofs.YtjeiojibnmfibaaGreatDoor
