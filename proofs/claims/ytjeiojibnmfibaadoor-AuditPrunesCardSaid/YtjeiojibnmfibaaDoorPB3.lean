import Derived.Test.YtjeiojibnmfibaaDoorPI
set_option linter.all false
set_option maxRecDepth 100000
namespace Go.Proofs.YtjeiojibnmfibaaDoor
open Go Hold
-- 68 (holdfast/hash.words).mix
def T68 : Ann := (.seq .none (.seq .none (.seq (.seq .none (.block (.loop 324518553658426726783156020315904 [18] (.seq .none (.seq (.seq .none .none) (.meet 162259276829213363391578009241344 [] (.block (.seq .none (.seq (.seq .none (.seq (.seq (.draw [(0, .pure), (1, .pure), (2, .pure), (3, .pure), (4, .pure), (8, .pure), (9, .pure), (10, .pure), (11, .pure), (12, .pure), (17, .pure), (18, .pure), (19, .pure), (20, .pure), (21, .pure), (26, .pure), (27, .pure), (28, .pure), (29, .pure), (30, .pure), (5, .load), (6, .pure), (7, .pure), (13, .load), (14, .pure), (15, .pure), (16, .pure), (22, .load), (23, .pure), (24, .pure), (25, .pure), (31, .load), (32, .pure), (33, .pure), (34, .pure), (35, .eff)]) .none) .none)) (.seq (.draw [(0, .pure), (1, .pure), (2, .pure), (5, .pure), (6, .pure), (7, .pure), (11, .pure), (12, .pure), (13, .pure), (3, .load), (8, .load), (14, .load), (15, .pure), (4, .eff), (9, .eff), (10, .pure), (16, .pure), (17, .pure)]) (.seq (.draw [(0, .pure), (1, .pure), (2, .pure), (5, .pure), (6, .pure), (7, .pure), (11, .pure), (12, .pure), (13, .pure), (3, .load), (8, .load), (14, .load), (15, .pure), (4, .eff), (9, .eff), (10, .pure), (16, .pure), (17, .pure)]) (.draw [(0, .pure), (1, .pure), (2, .pure), (3, .pure), (5, .pure), (7, .pure), (8, .pure), (9, .pure), (12, .pure), (4, .load), (6, .pure), (10, .load), (11, .pure), (13, .pure), (14, .pure), (15, .eff)])))))) .none)))))) (.seq .none (.seq (.seq .none (.block (.loop 784637716923335095479473028863850985159340864245963288576 [109] (.seq .none (.seq (.seq .none .none) (.seq (.block (.seq .none (.seq (.draw [(0, .pure), (3, .pure), (7, .pure), (1, .load), (4, .load), (8, .load), (2, .eff), (5, .eff), (6, .pure), (9, .eff), (10, .pure), (11, .pure)]) (.seq (.draw [(0, .pure), (2, .pure), (4, .pure), (6, .pure), (8, .pure), (10, .pure), (16, .pure), (17, .pure), (18, .pure), (19, .pure), (22, .pure), (23, .pure), (1, .load), (3, .pure), (5, .load), (7, .load), (9, .load), (11, .load), (12, .pure), (13, .pure), (14, .pure), (15, .pure), (20, .load), (21, .pure), (24, .load), (25, .pure), (26, .pure)]) (.seq (.draw [(0, .pure), (3, .pure), (7, .pure), (1, .load), (4, .load), (8, .load), (2, .eff), (5, .eff), (6, .pure), (9, .eff), (10, .pure), (11, .pure)]) (.seq .none (.seq (.draw [(0, .pure), (1, .pure), (2, .eff)]) (.seq .none .none)))))))) .none)))))) (.seq (.seq .none (.block (.loop 3213091450801057215988444711004424246742393193135027666419712 [189] (.seq .none (.seq (.seq .none .none) (.seq (.block (.seq .none (.draw [(0, .pure), (1, .pure), (3, .pure), (4, .pure), (2, .load), (5, .load), (6, .pure), (7, .pure), (8, .eff)]))) .none)))))) (.seq .none .none)))))))
theorem T68_ok : chkFn prog Tryd.f68 T68 = true := by kernel_rfl
def B68 (h_p0 k_p1 b_p2 : Value) (w : World) (K : Value → World → Prop) : Prop :=
  efv prog (Instr.box 107 h_p0) w fun h_0 w =>
  efv prog (Instr.alloc 107 true (.tuple #[])) w fun t_1 w =>
  efv prog (Instr.alloc 121 true (.tuple #[])) w fun w_2 w =>
  lp (fun σ w again_4 => pop σ fun t_3 σ => fin σ <|
    pvv prog (binOp .lss 3 t_3 (.int .i64 64)) w fun t_5 w =>
    cd t_5 (
      jn (fun σ w => fin σ <|
        pvv prog (binOp .add 3 t_3 (.int .i64 1)) w fun t_6 w =>
        again_4 [t_6] w) fun k_7 =>
      pvv prog (binOp .lss 3 t_3 (.int .i64 16)) w fun t_8 w =>
      cd t_8 (
        dr w fun w =>
        pvv prog (binOp .mul 3 (.int .i64 4) t_3) w fun t_9 w =>
        pvv prog (Instr.indexAt 72 b_p2 t_9) w fun t_10 w =>
        pvv prog (binOp .mul 3 (.int .i64 4) t_3) w fun t_11 w =>
        pvv prog (binOp .add 3 t_11 (.int .i64 1)) w fun t_12 w =>
        pvv prog (Instr.indexAt 72 b_p2 t_12) w fun t_13 w =>
        pvv prog (binOp .mul 3 (.int .i64 4) t_3) w fun t_14 w =>
        pvv prog (binOp .add 3 t_14 (.int .i64 2)) w fun t_15 w =>
        pvv prog (Instr.indexAt 72 b_p2 t_15) w fun t_16 w =>
        pvv prog (binOp .mul 3 (.int .i64 4) t_3) w fun t_17 w =>
        pvv prog (binOp .add 3 t_17 (.int .i64 3)) w fun t_18 w =>
        pvv prog (Instr.indexAt 72 b_p2 t_18) w fun t_19 w =>
        bindS (vN (Instr.loadAt 5 t_10)) fun m_21 => ldv prog (Instr.loadAt 5 t_10) w fun t_20 w =>
        pvv prog (convert 5 101 t_20) w fun t_22 w =>
        pvv prog (binOp .shl 101 t_22 (.int .u64 24)) w fun t_23 w =>
        bindS (vN (Instr.loadAt 5 t_13)) fun m_25 => ldv prog (Instr.loadAt 5 t_13) w fun t_24 w =>
        pvv prog (convert 5 101 t_24) w fun t_26 w =>
        pvv prog (binOp .shl 101 t_26 (.int .u64 16)) w fun t_27 w =>
        pvv prog (binOp .or 101 t_23 t_27) w fun t_28 w =>
        bindS (vN (Instr.loadAt 5 t_16)) fun m_30 => ldv prog (Instr.loadAt 5 t_16) w fun t_29 w =>
        pvv prog (convert 5 101 t_29) w fun t_31 w =>
        pvv prog (binOp .shl 101 t_31 (.int .u64 8)) w fun t_32 w =>
        pvv prog (binOp .or 101 t_28 t_32) w fun t_33 w =>
        bindS (vN (Instr.loadAt 5 t_19)) fun m_35 => ldv prog (Instr.loadAt 5 t_19) w fun t_34 w =>
        pvv prog (convert 5 101 t_34) w fun t_36 w =>
        pvv prog (binOp .or 101 t_33 t_36) w fun t_37 w =>
        pvv prog (Instr.indexAt 121 w_2 t_3) w fun t_38 w =>
        efu prog (Instr.storeAt 101 t_38 t_37) w fun u_39 w =>
        k_7 [] w) <|
      dr w fun w =>
      pvv prog (binOp .sub 3 t_3 (.int .i64 15)) w fun t_41 w =>
      pvv prog (Instr.indexAt 121 w_2 t_41) w fun t_42 w =>
      pvv prog (binOp .sub 3 t_3 (.int .i64 15)) w fun t_43 w =>
      pvv prog (Instr.indexAt 121 w_2 t_43) w fun t_44 w =>
      pvv prog (binOp .sub 3 t_3 (.int .i64 15)) w fun t_45 w =>
      pvv prog (Instr.indexAt 121 w_2 t_45) w fun t_46 w =>
      bindS (vN (Instr.loadAt 101 t_42)) fun m_48 => ldv prog (Instr.loadAt 101 t_42) w fun t_47 w =>
      bindS (vN (Instr.loadAt 101 t_44)) fun m_50 => ldv prog (Instr.loadAt 101 t_44) w fun t_49 w =>
      bindS (vN (Instr.loadAt 101 t_46)) fun m_52 => ldv prog (Instr.loadAt 101 t_46) w fun t_51 w =>
      pvv prog (binOp .shr 101 t_51 (.int .u64 3)) w fun t_53 w =>
      Calls prog 83 #[t_47, (.int .i64 (-7))] w (Ret fun t_54 w => stay prog none m_52 t_51 w <| stay prog none m_50 t_49 w <| 
      Calls prog 83 #[t_49, (.int .i64 (-18))] w (Ret fun t_55 w => stay prog none m_52 t_51 w <| stay prog none m_48 t_47 w <| 
      pvv prog (binOp .xor 101 t_54 t_55) w fun t_56 w =>
      pvv prog (binOp .xor 101 t_56 t_53) w fun t_57 w =>
      dr w fun w =>
      pvv prog (binOp .sub 3 t_3 (.int .i64 2)) w fun t_58 w =>
      pvv prog (Instr.indexAt 121 w_2 t_58) w fun t_59 w =>
      pvv prog (binOp .sub 3 t_3 (.int .i64 2)) w fun t_60 w =>
      pvv prog (Instr.indexAt 121 w_2 t_60) w fun t_61 w =>
      pvv prog (binOp .sub 3 t_3 (.int .i64 2)) w fun t_62 w =>
      pvv prog (Instr.indexAt 121 w_2 t_62) w fun t_63 w =>
      bindS (vN (Instr.loadAt 101 t_59)) fun m_65 => ldv prog (Instr.loadAt 101 t_59) w fun t_64 w =>
      bindS (vN (Instr.loadAt 101 t_61)) fun m_67 => ldv prog (Instr.loadAt 101 t_61) w fun t_66 w =>
      bindS (vN (Instr.loadAt 101 t_63)) fun m_69 => ldv prog (Instr.loadAt 101 t_63) w fun t_68 w =>
      pvv prog (binOp .shr 101 t_68 (.int .u64 10)) w fun t_70 w =>
      Calls prog 83 #[t_64, (.int .i64 (-17))] w (Ret fun t_71 w => stay prog none m_69 t_68 w <| stay prog none m_67 t_66 w <| 
      Calls prog 83 #[t_66, (.int .i64 (-19))] w (Ret fun t_72 w => stay prog none m_69 t_68 w <| stay prog none m_65 t_64 w <| 
      pvv prog (binOp .xor 101 t_71 t_72) w fun t_73 w =>
      pvv prog (binOp .xor 101 t_73 t_70) w fun t_74 w =>
      dr w fun w =>
      pvv prog (binOp .sub 3 t_3 (.int .i64 16)) w fun t_75 w =>
      pvv prog (Instr.indexAt 121 w_2 t_75) w fun t_76 w =>
      pvv prog (binOp .sub 3 t_3 (.int .i64 7)) w fun t_77 w =>
      pvv prog (Instr.indexAt 121 w_2 t_77) w fun t_78 w =>
      bindS (vN (Instr.loadAt 101 t_76)) fun m_80 => ldv prog (Instr.loadAt 101 t_76) w fun t_79 w =>
      pvv prog (binOp .add 101 t_79 t_57) w fun t_81 w =>
      bindS (vN (Instr.loadAt 101 t_78)) fun m_83 => ldv prog (Instr.loadAt 101 t_78) w fun t_82 w =>
      pvv prog (binOp .add 101 t_81 t_82) w fun t_84 w =>
      pvv prog (binOp .add 101 t_84 t_74) w fun t_85 w =>
      pvv prog (Instr.indexAt 121 w_2 t_3) w fun t_86 w =>
      efu prog (Instr.storeAt 101 t_86 t_85) w fun u_87 w =>
      k_7 [] w))))) <|
    ldv prog (Instr.loadAt 107 h_0) w fun t_93 w =>
    efv prog (Instr.alloc 107 true (.tuple #[])) w fun v_94 w =>
    efu prog (Instr.storeAt 107 v_94 t_93) w fun u_95 w =>
    lp (fun σ w again_97 => pop σ fun t_96 σ => fin σ <|
      pvv prog (binOp .lss 3 t_96 (.int .i64 64)) w fun t_98 w =>
      cd t_98 (
        dr w fun w =>
        pvv prog (Instr.indexAt 107 v_94 (.int .i64 4)) w fun t_99 w =>
        pvv prog (Instr.indexAt 107 v_94 (.int .i64 4)) w fun t_100 w =>
        pvv prog (Instr.indexAt 107 v_94 (.int .i64 4)) w fun t_101 w =>
        bindS (vN (Instr.loadAt 101 t_99)) fun m_103 => ldv prog (Instr.loadAt 101 t_99) w fun t_102 w =>
        bindS (vN (Instr.loadAt 101 t_100)) fun m_105 => ldv prog (Instr.loadAt 101 t_100) w fun t_104 w =>
        bindS (vN (Instr.loadAt 101 t_101)) fun m_107 => ldv prog (Instr.loadAt 101 t_101) w fun t_106 w =>
        Calls prog 83 #[t_102, (.int .i64 (-6))] w (Ret fun t_108 w => stay prog none m_107 t_106 w <| stay prog none m_105 t_104 w <| 
        Calls prog 83 #[t_104, (.int .i64 (-11))] w (Ret fun t_109 w => stay prog none m_107 t_106 w <| stay prog none m_103 t_102 w <| 
        pvv prog (binOp .xor 101 t_108 t_109) w fun t_110 w =>
        Calls prog 83 #[t_106, (.int .i64 (-25))] w (Ret fun t_111 w => stay prog none m_105 t_104 w <| stay prog none m_103 t_102 w <| 
        pvv prog (binOp .xor 101 t_110 t_111) w fun t_112 w =>
        dr w fun w =>
        pvv prog (Instr.indexAt 107 v_94 (.int .i64 7)) w fun t_113 w =>
        pvv prog (Instr.indexAt 107 v_94 (.int .i64 6)) w fun t_114 w =>
        pvv prog (Instr.indexAt 107 v_94 (.int .i64 4)) w fun t_115 w =>
        pvv prog (Instr.indexAt 107 v_94 (.int .i64 5)) w fun t_116 w =>
        pvv prog (Instr.indexAt 107 v_94 (.int .i64 6)) w fun t_117 w =>
        pv prog (oNil k_p1) w fun t_118 w =>
        pvv prog (Instr.indexAt 121 t_118 t_96) w fun t_119 w =>
        pvv prog (Instr.indexAt 121 w_2 t_96) w fun t_120 w =>
        bindS (vN (Instr.loadAt 101 t_113)) fun m_122 => ldv prog (Instr.loadAt 101 t_113) w fun t_121 w =>
        pvv prog (binOp .add 101 t_121 t_112) w fun t_123 w =>
        bindS (vN (Instr.loadAt 101 t_114)) fun m_125 => ldv prog (Instr.loadAt 101 t_114) w fun t_124 w =>
        bindS (vN (Instr.loadAt 101 t_115)) fun m_127 => ldv prog (Instr.loadAt 101 t_115) w fun t_126 w =>
        bindS (vN (Instr.loadAt 101 t_116)) fun m_129 => ldv prog (Instr.loadAt 101 t_116) w fun t_128 w =>
        bindS (vN (Instr.loadAt 101 t_117)) fun m_131 => ldv prog (Instr.loadAt 101 t_117) w fun t_130 w =>
        pvv prog (binOp .xor 101 t_128 t_130) w fun t_132 w =>
        pvv prog (binOp .and 101 t_126 t_132) w fun t_133 w =>
        pvv prog (binOp .xor 101 t_124 t_133) w fun t_134 w =>
        pvv prog (binOp .add 101 t_123 t_134) w fun t_135 w =>
        bindS (vN (Instr.loadAt 101 t_119)) fun m_137 => ldv prog (Instr.loadAt 101 t_119) w fun t_136 w =>
        pvv prog (binOp .add 101 t_135 t_136) w fun t_138 w =>
        bindS (vN (Instr.loadAt 101 t_120)) fun m_140 => ldv prog (Instr.loadAt 101 t_120) w fun t_139 w =>
        pvv prog (binOp .add 101 t_138 t_139) w fun t_141 w =>
        dr w fun w =>
        pvv prog (Instr.indexAt 107 v_94 (.int .i64 0)) w fun t_142 w =>
        pvv prog (Instr.indexAt 107 v_94 (.int .i64 0)) w fun t_143 w =>
        pvv prog (Instr.indexAt 107 v_94 (.int .i64 0)) w fun t_144 w =>
        bindS (vN (Instr.loadAt 101 t_142)) fun m_146 => ldv prog (Instr.loadAt 101 t_142) w fun t_145 w =>
        bindS (vN (Instr.loadAt 101 t_143)) fun m_148 => ldv prog (Instr.loadAt 101 t_143) w fun t_147 w =>
        bindS (vN (Instr.loadAt 101 t_144)) fun m_150 => ldv prog (Instr.loadAt 101 t_144) w fun t_149 w =>
        Calls prog 83 #[t_145, (.int .i64 (-2))] w (Ret fun t_151 w => stay prog none m_150 t_149 w <| stay prog none m_148 t_147 w <| 
        Calls prog 83 #[t_147, (.int .i64 (-13))] w (Ret fun t_152 w => stay prog none m_150 t_149 w <| stay prog none m_146 t_145 w <| 
        pvv prog (binOp .xor 101 t_151 t_152) w fun t_153 w =>
        Calls prog 83 #[t_149, (.int .i64 (-22))] w (Ret fun t_154 w => stay prog none m_148 t_147 w <| stay prog none m_146 t_145 w <| 
        pvv prog (binOp .xor 101 t_153 t_154) w fun t_155 w =>
        pvv prog (Instr.indexAt 107 v_94 (.int .i64 0)) w fun t_156 w =>
        ldv prog (Instr.loadAt 101 t_156) w fun t_157 w =>
        pvv prog (Instr.indexAt 107 v_94 (.int .i64 1)) w fun t_158 w =>
        ldv prog (Instr.loadAt 101 t_158) w fun t_159 w =>
        pvv prog (binOp .and 101 t_157 t_159) w fun t_160 w =>
        pvv prog (Instr.indexAt 107 v_94 (.int .i64 2)) w fun t_161 w =>
        ldv prog (Instr.loadAt 101 t_161) w fun t_162 w =>
        pvv prog (Instr.indexAt 107 v_94 (.int .i64 0)) w fun t_163 w =>
        ldv prog (Instr.loadAt 101 t_163) w fun t_164 w =>
        pvv prog (Instr.indexAt 107 v_94 (.int .i64 1)) w fun t_165 w =>
        ldv prog (Instr.loadAt 101 t_165) w fun t_166 w =>
        pvv prog (binOp .or 101 t_164 t_166) w fun t_167 w =>
        pvv prog (binOp .and 101 t_162 t_167) w fun t_168 w =>
        pvv prog (binOp .or 101 t_160 t_168) w fun t_169 w =>
        pvv prog (binOp .add 101 t_155 t_169) w fun t_170 w =>
        dr w fun w =>
        pvv prog (Instr.sliceAt 107 v_94 (some (.int .i64 1)) none none) w fun t_171 w =>
        pvv prog (Instr.sliceAt 107 v_94 none (some (.int .i64 7)) none) w fun t_172 w =>
        ef prog (oBi .copy #[102, 102] 3 #[false, false] #[t_171, t_172]) w fun t_173 w =>
        pvv prog (Instr.indexAt 107 v_94 (.int .i64 4)) w fun t_174 w =>
        ldv prog (Instr.loadAt 101 t_174) w fun t_175 w =>
        pvv prog (binOp .add 101 t_175 t_141) w fun t_176 w =>
        pvv prog (Instr.indexAt 107 v_94 (.int .i64 4)) w fun t_177 w =>
        efu prog (Instr.storeAt 101 t_177 t_176) w fun u_178 w =>
        pvv prog (binOp .add 101 t_141 t_170) w fun t_179 w =>
        pvv prog (Instr.indexAt 107 v_94 (.int .i64 0)) w fun t_180 w =>
        efu prog (Instr.storeAt 101 t_180 t_179) w fun u_181 w =>
        pvv prog (binOp .add 3 t_96 (.int .i64 1)) w fun t_182 w =>
        again_97 [t_182] w))))))) <|
      lp (fun σ w again_191 => pop σ fun t_190 σ => fin σ <|
        pvv prog (binOp .lss 3 t_190 (.int .i64 8)) w fun t_192 w =>
        cd t_192 (
          dr w fun w =>
          pvv prog (Instr.indexAt 107 h_0 t_190) w fun t_193 w =>
          pvv prog (Instr.indexAt 107 v_94 t_190) w fun t_194 w =>
          bindS (vN (Instr.loadAt 101 t_193)) fun m_196 => ldv prog (Instr.loadAt 101 t_193) w fun t_195 w =>
          bindS (vN (Instr.loadAt 101 t_194)) fun m_198 => ldv prog (Instr.loadAt 101 t_194) w fun t_197 w =>
          pvv prog (binOp .add 101 t_195 t_197) w fun t_199 w =>
          pvv prog (Instr.indexAt 107 h_0 t_190) w fun t_200 w =>
          efu prog (Instr.storeAt 101 t_200 t_199) w fun u_201 w =>
          pvv prog (binOp .add 3 t_190 (.int .i64 1)) w fun t_202 w =>
          again_191 [t_202] w) <|
        ldv prog (Instr.loadAt 107 h_0) w fun t_204 w =>
        efu prog (Instr.storeAt 107 t_1 t_204) w fun u_205 w =>
        ∃ r_206, (do loadVar 107 (← asAddr t_1)).run prog w = .ok r_206 w ∧ K r_206 w) [(.int .i64 0)] w) [(.int .i64 0)] w) [(.int .i64 0)] w
theorem B68_eq (h_p0 k_p1 b_p2 : Value) (w : World) (K : Value → World → Prop) : denFn prog Tryd.f68 T68 [h_p0, k_p1, b_p2] w K = B68 h_p0 k_p1 b_p2 w K := by kernel_rfl
theorem c68 {h_p0 k_p1 b_p2 : Value} {w : World} {K : Value → World → Prop} (h : B68 h_p0 k_p1 b_p2 w K) : Calls prog 68 #[h_p0, k_p1, b_p2] w (Ret K) :=
  denFn_calls Tryd.func68 T68_ok (Eq.mpr (B68_eq h_p0 k_p1 b_p2 w K) h)

-- 81 internal/strconv.ParseUint
def T81 : Ann := (.seq .none (.seq (.seq .none (.seq (.seq .none .none) .none)) (.seq .none (.seq .none (.meet 75557863725914306642115 [0, 1] (.block (.seq .none (.seq .none (.seq .none (.seq (.seq .none (.seq .none (.seq (.block (.seq .none (.seq (.seq .none .none) (.seq .none (.seq (.seq .none .none) (.seq .none (.seq (.seq .none .none) (.seq .none .none)))))))) .none))) (.seq .none .none)))))) (.meet 38610068363942219267178692 [2] (.seq .none (.seq .none (.seq .none (.seq (.seq .none .none) .none)))) (.seq .none (.meet 19768355002338416264795390976 [10] (.seq .none (.block (.seq .none (.seq .none (.seq .none (.seq .none .none)))))) (.seq .none (.seq .none (.seq .none (.seq (.seq .none (.block (.loop 23384026197294446688723656123004069511501514518720 [12, 13, 101] (.seq .none (.seq (.seq .none .none) (.meet 11692013098647223335488273859904428945273834942656 [12, 13] (.block (.seq .none (.seq .none (.meet 21778071442375242454352634027738663030976 [12, 16] (.block (.seq .none (.seq (.seq .none .none) (.seq .none (.seq .none (.seq .none (.seq .none (.seq .none .none)))))))) (.seq (.seq .none (.seq (.seq .none .none) .none)) (.seq (.seq .none (.seq (.seq .none .none) .none)) (.seq .none (.seq .none (.seq (.seq .none (.seq (.seq .none .none) .none)) .none))))))))) .none)))))) (.seq (.seq .none (.seq (.seq .none .none) .none)) (.seq .none .none))))))))))))))
theorem T81_ok : chkFn prog Tryd.f81 T81 = true := by kernel_rfl
def B81 (s_p0 base_p1 bitSize_p2 : Value) (w : World) (K : Value → World → Prop) : Prop :=
  pvv prog (oEq .eql 9 (.tmp 18) (.const (.string ⟨#[]⟩)) s_p0 (.string ⟨#[]⟩)) w fun t_0 w =>
  cd t_0 (
    pvv prog (Instr.makeInterface 131 (.int .i64 2)) w fun t_1 w =>
    K (.tuple #[(.int .u64 0), t_1]) w) <|
  pvv prog (oEq .eql 3 (.tmp 21) (.const (.int .i64 0)) base_p1 (.int .i64 0)) w fun t_2 w =>
  jn (fun σ w => pop σ fun s_3 σ => pop σ fun base_4 σ => fin σ <|
    jn (fun σ w => pop σ fun bitSize_5 σ => fin σ <|
      jn (fun σ w => pop σ fun cutoff_6 σ => fin σ <|
        pvv prog (convert 3 104 bitSize_5) w fun t_7 w =>
        pvv prog (binOp .shl 96 (.int .u64 1) t_7) w fun t_8 w =>
        pvv prog (binOp .sub 96 t_8 (.int .u64 1)) w fun t_9 w =>
        efv prog (convert 9 72 s_3) w fun t_10 w =>
        pv prog (oBi .len #[72] 3 #[false] #[t_10]) w fun t_11 w =>
        lp (fun σ w again_15 => pop σ fun underscores_12 σ => pop σ fun n_13 σ => pop σ fun t_14 σ => fin σ <|
          pvv prog (binOp .lss 3 t_14 t_11) w fun t_16 w =>
          cd t_16 (
            jn (fun σ w => pop σ fun underscores_17 σ => pop σ fun n_18 σ => fin σ <|
              pvv prog (binOp .add 3 t_14 (.int .i64 1)) w fun t_19 w =>
              again_15 [underscores_17, n_18, t_19] w) fun k_20 =>
            pvv prog (Instr.indexAt 72 t_10 t_14) w fun t_21 w =>
            ldv prog (Instr.loadAt 5 t_21) w fun t_22 w =>
            jn (fun σ w => pop σ fun underscores_23 σ => pop σ fun d_24 σ => fin σ <|
              pvv prog (convert 3 5 base_4) w fun t_25 w =>
              pvv prog (binOp .geq 5 d_24 t_25) w fun t_26 w =>
              cd t_26 (
                pvv prog (Instr.makeInterface 131 (.int .i64 2)) w fun t_27 w =>
                K (.tuple #[(.int .u64 0), t_27]) w) <|
              pvv prog (binOp .geq 96 n_13 cutoff_6) w fun t_28 w =>
              cd t_28 (
                pvv prog (Instr.makeInterface 131 (.int .i64 1)) w fun t_29 w =>
                K (.tuple #[t_9, t_29]) w) <|
              pvv prog (convert 3 96 base_4) w fun t_30 w =>
              pvv prog (binOp .mul 96 n_13 t_30) w fun t_31 w =>
              pvv prog (convert 5 96 d_24) w fun t_32 w =>
              pvv prog (binOp .add 96 t_31 t_32) w fun t_33 w =>
              pvv prog (binOp .lss 96 t_33 t_31) w fun t_34 w =>
              gate (some (t_34, false)) (fun K => K t_33 w) w fun t_35 w =>
              gate (some (t_34, false)) (fun K => K t_9 w) w fun t_36 w =>
              gate (some (t_34, false)) (fun K => pvv prog (binOp .gtr 96 t_35 t_36) w K) w fun t_37 w =>
              pv prog (oPick t_34 (.bool true) t_37) w fun t_38 w =>
              cd t_38 (
                pvv prog (Instr.makeInterface 131 (.int .i64 1)) w fun t_39 w =>
                K (.tuple #[t_9, t_39]) w) <|
              k_20 [underscores_23, t_33] w) fun k_40 =>
            pvv prog (oEq .eql 5 (.tmp 107) (.const (.int .u8 95)) t_22 (.int .u8 95)) w fun t_41 w =>
            gate (some (t_41, true)) (fun K => K t_2 w) w fun t_42 w =>
            pv prog (oPick t_41 t_42 (.bool false)) w fun t_43 w =>
            cd t_43 (
              k_20 [(.bool true), n_13] w) <|
            pvv prog (binOp .leq 5 (.int .u8 48) t_22) w fun t_44 w =>
            gate (some (t_44, true)) (fun K => K t_22 w) w fun t_45 w =>
            gate (some (t_44, true)) (fun K => pvv prog (binOp .leq 5 t_45 (.int .u8 57)) w K) w fun t_46 w =>
            pv prog (oPick t_44 t_46 (.bool false)) w fun t_47 w =>
            cd t_47 (
              pvv prog (binOp .sub 5 t_22 (.int .u8 48)) w fun t_48 w =>
              k_40 [underscores_12, t_48] w) <|
            Calls prog 92 #[t_22] w (Ret fun t_49 w =>
            pvv prog (binOp .leq 5 (.int .u8 97) t_49) w fun t_50 w =>
            gate (some (t_50, true)) (fun K => K t_22 w) w fun t_51 w =>
            gate (some (t_50, true)) (fun K => Calls prog 92 #[t_51] w (Ret K)) w fun t_52 w =>
            gate (some (t_50, true)) (fun K => pvv prog (binOp .leq 5 t_52 (.int .u8 122)) w K) w fun t_53 w =>
            pv prog (oPick t_50 t_53 (.bool false)) w fun t_54 w =>
            cd t_54 (
              Calls prog 92 #[t_22] w (Ret fun t_55 w =>
              pvv prog (binOp .sub 5 t_55 (.int .u8 97)) w fun t_56 w =>
              pvv prog (binOp .add 5 t_56 (.int .u8 10)) w fun t_57 w =>
              k_40 [underscores_12, t_57] w)) <|
            pvv prog (Instr.makeInterface 131 (.int .i64 2)) w fun t_58 w =>
            K (.tuple #[(.int .u64 0), t_58]) w)) <|
          gate (some (underscores_12, true)) (fun K => K s_p0 w) w fun t_59 w =>
          gate (some (underscores_12, true)) (fun K => Calls prog 93 #[t_59] w (Ret K)) w fun t_60 w =>
          gate (some (underscores_12, true)) (fun K => pvv prog (Op.unary .not t_60) w K) w fun t_61 w =>
          pv prog (oPick underscores_12 t_61 (.bool false)) w fun t_62 w =>
          cd t_62 (
            pvv prog (Instr.makeInterface 131 (.int .i64 2)) w fun t_63 w =>
            K (.tuple #[(.int .u64 0), t_63]) w) <|
          K (.tuple #[n_13, .nilIface]) w) [(.bool false), (.int .u64 0), (.int .i64 0)] w) fun k_64 =>
      pvv prog (oEq .eql 3 (.tmp 85) (.const (.int .i64 10)) base_4 (.int .i64 10)) w fun t_65 w =>
      cd t_65 (
        k_64 [(.int .u64 1844674407370955162)] w) <|
      pvv prog (oEq .eql 3 (.tmp 85) (.const (.int .i64 16)) base_4 (.int .i64 16)) w fun t_66 w =>
      cd t_66 (
        k_64 [(.int .u64 1152921504606846976)] w) <|
      pvv prog (convert 3 96 base_4) w fun t_67 w =>
      pvv prog (binOp .quo 96 (.int .u64 18446744073709551615) t_67) w fun t_68 w =>
      pvv prog (binOp .add 96 t_68 (.int .u64 1)) w fun t_69 w =>
      k_64 [t_69] w) fun k_70 =>
    pvv prog (oEq .eql 3 (.tmp 76) (.const (.int .i64 0)) bitSize_p2 (.int .i64 0)) w fun t_71 w =>
    cd t_71 (
      k_70 [(.int .i64 64)] w) <|
    pvv prog (binOp .lss 3 bitSize_p2 (.int .i64 0)) w fun t_72 w =>
    gate (some (t_72, false)) (fun K => K bitSize_p2 w) w fun t_73 w =>
    gate (some (t_72, false)) (fun K => pvv prog (binOp .gtr 3 t_73 (.int .i64 64)) w K) w fun t_74 w =>
    pv prog (oPick t_72 (.bool true) t_74) w fun t_75 w =>
    cd t_75 (
      pvv prog (Instr.makeInterface 131 (.int .i64 4)) w fun t_76 w =>
      K (.tuple #[(.int .u64 0), t_76]) w) <|
    k_70 [bitSize_p2] w) fun k_77 =>
  pvv prog (binOp .leq 3 (.int .i64 2) base_p1) w fun t_78 w =>
  gate (some (t_78, true)) (fun K => K base_p1 w) w fun t_79 w =>
  gate (some (t_78, true)) (fun K => pvv prog (binOp .leq 3 t_79 (.int .i64 36)) w K) w fun t_80 w =>
  pv prog (oPick t_78 t_80 (.bool false)) w fun t_81 w =>
  cd t_81 (
    k_77 [s_p0, base_p1] w) <|
  pvv prog (oEq .eql 3 (.tmp 33) (.const (.int .i64 0)) base_p1 (.int .i64 0)) w fun t_82 w =>
  cd t_82 (
    pvv prog (Instr.index 9 s_p0 (.int .i64 0)) w fun t_83 w =>
    pvv prog (oEq .eql 5 (.tmp 36) (.const (.int .u8 48)) t_83 (.int .u8 48)) w fun t_84 w =>
    cd t_84 (
      pv prog (oBi .len #[9] 3 #[false] #[s_p0]) w fun t_85 w =>
      pvv prog (binOp .geq 3 t_85 (.int .i64 3)) w fun t_86 w =>
      gate (some (t_86, true)) (fun K => K s_p0 w) w fun t_87 w =>
      gate (some (t_86, true)) (fun K => pvv prog (Instr.index 9 t_87 (.int .i64 1)) w K) w fun t_88 w =>
      gate (some (t_86, true)) (fun K => Calls prog 92 #[t_88] w (Ret K)) w fun t_89 w =>
      gate (some (t_86, true)) (fun K => pvv prog (oEq .eql 5 (.tmp 47) (.const (.int .u8 98)) t_89 (.int .u8 98)) w K) w fun t_90 w =>
      pv prog (oPick t_86 t_90 (.bool false)) w fun t_91 w =>
      cd t_91 (
        pvv prog (Instr.sliceAt 9 s_p0 (some (.int .i64 2)) none none) w fun t_92 w =>
        k_77 [t_92, (.int .i64 2)] w) <|
      pv prog (oBi .len #[9] 3 #[false] #[s_p0]) w fun t_93 w =>
      pvv prog (binOp .geq 3 t_93 (.int .i64 3)) w fun t_94 w =>
      gate (some (t_94, true)) (fun K => K s_p0 w) w fun t_95 w =>
      gate (some (t_94, true)) (fun K => pvv prog (Instr.index 9 t_95 (.int .i64 1)) w K) w fun t_96 w =>
      gate (some (t_94, true)) (fun K => Calls prog 92 #[t_96] w (Ret K)) w fun t_97 w =>
      gate (some (t_94, true)) (fun K => pvv prog (oEq .eql 5 (.tmp 59) (.const (.int .u8 111)) t_97 (.int .u8 111)) w K) w fun t_98 w =>
      pv prog (oPick t_94 t_98 (.bool false)) w fun t_99 w =>
      cd t_99 (
        pvv prog (Instr.sliceAt 9 s_p0 (some (.int .i64 2)) none none) w fun t_100 w =>
        k_77 [t_100, (.int .i64 8)] w) <|
      pv prog (oBi .len #[9] 3 #[false] #[s_p0]) w fun t_101 w =>
      pvv prog (binOp .geq 3 t_101 (.int .i64 3)) w fun t_102 w =>
      gate (some (t_102, true)) (fun K => K s_p0 w) w fun t_103 w =>
      gate (some (t_102, true)) (fun K => pvv prog (Instr.index 9 t_103 (.int .i64 1)) w K) w fun t_104 w =>
      gate (some (t_102, true)) (fun K => Calls prog 92 #[t_104] w (Ret K)) w fun t_105 w =>
      gate (some (t_102, true)) (fun K => pvv prog (oEq .eql 5 (.tmp 71) (.const (.int .u8 120)) t_105 (.int .u8 120)) w K) w fun t_106 w =>
      pv prog (oPick t_102 t_106 (.bool false)) w fun t_107 w =>
      cd t_107 (
        pvv prog (Instr.sliceAt 9 s_p0 (some (.int .i64 2)) none none) w fun t_108 w =>
        k_77 [t_108, (.int .i64 16)] w) <|
      pvv prog (Instr.sliceAt 9 s_p0 (some (.int .i64 1)) none none) w fun t_109 w =>
      k_77 [t_109, (.int .i64 8)] w) <|
    k_77 [s_p0, (.int .i64 10)] w) <|
  pvv prog (Instr.makeInterface 131 (.int .i64 3)) w fun t_110 w =>
  K (.tuple #[(.int .u64 0), t_110]) w
theorem B81_eq (s_p0 base_p1 bitSize_p2 : Value) (w : World) (K : Value → World → Prop) : denFn prog Tryd.f81 T81 [s_p0, base_p1, bitSize_p2] w K = B81 s_p0 base_p1 bitSize_p2 w K := by kernel_rfl
theorem c81 {s_p0 base_p1 bitSize_p2 : Value} {w : World} {K : Value → World → Prop} (h : B81 s_p0 base_p1 bitSize_p2 w K) : Calls prog 81 #[s_p0, base_p1, bitSize_p2] w (Ret K) :=
  denFn_calls Tryd.func81 T81_ok (Eq.mpr (B81_eq s_p0 base_p1 bitSize_p2 w K) h)

-- 5 holdfast/holdfastlaw14.AuditPrunes
def T5 : Ann := (.seq .none (.seq .none (.seq (.seq .none (.seq (.seq .none .none) .none)) (.seq (.seq .none (.block (.loop 274875809920 [7] (.seq (.seq .none (.seq .none .none)) (.seq (.block .none) .none))))) (.seq .none (.seq .none (.seq .none (.seq .none (.meet 575334852396584960 [12] (.seq .none (.seq .none .none)) (.seq .none (.seq .none (.seq (.seq (.draw [(0, .pure), (1, .pure), (2, .pure), (3, .pure), (4, .pure), (5, .pure), (6, .pure), (7, .pure), (8, .pure), (9, .pure), (10, .pure), (11, .pure), (12, .pure), (13, .pure), (14, .pure), (15, .pure), (16, .pure), (17, .pure), (19, .load), (18, .eff), (20, .pure), (21, .pure), (22, .pure), (23, .pure), (25, .pure), (24, .eff), (26, .pure), (27, .pure), (28, .pure), (29, .pure), (30, .eff), (31, .pure), (32, .pure)]) (.seq (.seq .none .none) .none)) (.seq (.seq .none (.block (.loop 664608927290057023534297543327416336 [16] (.seq (.seq .none (.seq .none .none)) (.seq (.block (.seq (.draw [(0, .pure), (1, .pure), (2, .pure), (4, .pure), (5, .pure), (6, .pure), (7, .pure), (8, .pure), (3, .load), (9, .load), (10, .pure)]) (.seq (.seq .none .none) .none))) .none))))) (.seq .none .none))))))))))))))
theorem T5_ok : chkFn prog Tryd.f5 T5 = true := by kernel_rfl
def B5 (l_p0 n_p1 : Value) (w : World) (K : Value → World → Prop) : Prop :=
  Calls prog 9 #[] w (Ret fun t_0 w =>
  Calls prog 10 #[] w (Ret fun t_1 w =>
  Calls prog 11 #[] w (Ret fun t_2 w =>
  pvv prog (Op.unary .not t_2) w fun t_3 w =>
  cd t_3 (
    K (.bool false) w) <|
  lp (fun σ w again_5 => pop σ fun i_4 σ => fin σ <|
    pv prog (oBi .len #[22] 3 #[false] #[l_p0]) w fun t_6 w =>
    pvv prog (binOp .lss 3 i_4 t_6) w fun t_7 w =>
    gate (some (t_7, true)) (fun K => K i_4 w) w fun t_8 w =>
    gate (some (t_7, true)) (fun K => pvv prog (binOp .lss 3 t_8 (.int .i64 60)) w K) w fun t_9 w =>
    pv prog (oPick t_7 t_9 (.bool false)) w fun t_10 w =>
    cd t_10 (
      pvv prog (Instr.indexAt 22 l_p0 i_4) w fun t_11 w =>
      ldv prog (Instr.loadAt 30 t_11) w fun t_12 w =>
      Calls prog 12 #[t_0, t_1, t_12] w (Ret fun t_13 w =>
      pvv prog (binOp .add 3 i_4 (.int .i64 1)) w fun t_14 w =>
      again_5 [t_14] w)) <|
    Calls prog 17 #[t_0] w (Ret fun t_15 w =>
    Calls prog 13 #[t_0] w (Ret fun t_16 w =>
    Calls prog 19 #[t_0] w (Ret fun t_17 w =>
    Calls prog 15 #[t_0] w (Ret fun t_18 w =>
    efv prog (Instr.alloc 36 true (.tuple #[])) w fun head_19 w =>
    efu prog (Instr.storeAt 36 head_19 t_17) w fun u_20 w =>
    pv prog (oBi .len #[31] 3 #[false] #[t_16]) w fun t_21 w =>
    pvv prog (binOp .sub 3 t_18 t_21) w fun t_22 w =>
    jn (fun σ w => pop σ fun k_23 σ => fin σ <|
      pvv prog (binOp .add 3 t_22 k_23) w fun t_24 w =>
      Calls prog 18 #[t_0, t_24] w (Ret fun t_25 w =>
      pvv prog (Instr.extract t_25 0) w fun t_26 w =>
      pvv prog (Instr.extract t_25 1) w fun t_27 w =>
      Calls prog 13 #[t_0] w (Ret fun t_28 w =>
      dr w fun w =>
      pvv prog (oEq .neq 41 (.tmp 69) (.const (.int .i64 0)) t_27 (.int .i64 0)) w fun t_29 w =>
      gate (some (t_29, false)) (fun K => K t_26 w) w fun t_30 w =>
      gate (some (t_29, false)) (fun K => K k_23 w) w fun t_31 w =>
      gate (some (t_29, false)) (fun K => pvv prog (oEq .neq 3 (.tmp 72) (.tmp 73) t_30 t_31) w K) w fun t_32 w =>
      pv prog (oPick t_29 (.bool true) t_32) w fun t_33 w =>
      gate (some (t_33, false)) (fun K => K t_28 w) w fun t_34 w =>
      gate (some (t_33, false)) (fun K => pv prog (oBi .len #[31] 3 #[false] #[t_34]) w K) w fun t_35 w =>
      gate (some (t_33, false)) (fun K => K t_16 w) w fun t_36 w =>
      gate (some (t_33, false)) (fun K => pv prog (oBi .len #[31] 3 #[false] #[t_36]) w K) w fun t_37 w =>
      gate (some (t_33, false)) (fun K => K k_23 w) w fun t_38 w =>
      gate (some (t_33, false)) (fun K => pvv prog (binOp .sub 3 t_37 t_38) w K) w fun t_39 w =>
      gate (some (t_33, false)) (fun K => pvv prog (oEq .neq 3 (.tmp 78) (.tmp 82) t_35 t_39) w K) w fun t_40 w =>
      pv prog (oPick t_33 (.bool true) t_40) w fun t_41 w =>
      gate (some (t_41, false)) (fun K => K t_0 w) w fun t_42 w =>
      bindS (vN (Instr.loadAt 36 head_19)) fun m_44 => gate (some (t_41, false)) (fun K => ldv prog (Instr.loadAt 36 head_19) w K) w fun t_43 w =>
      gate (some (t_41, false)) (fun K => Calls prog 19 #[t_42] w (Ret fun s_72 w => stay prog (some (t_41, false)) m_44 t_43 w <| K s_72 w)) w fun t_45 w =>
      gate (some (t_41, false)) (fun K => pvv prog (oEq .neq 36 (.tmp 87) (.tmp 88) t_45 t_43) w K) w fun t_46 w =>
      pv prog (oPick t_41 (.bool true) t_46) w fun t_47 w =>
      gate (some (t_47, false)) (fun K => K t_0 w) w fun t_48 w =>
      gate (some (t_47, false)) (fun K => K t_18 w) w fun t_49 w =>
      gate (some (t_47, false)) (fun K => Calls prog 15 #[t_48] w (Ret fun s_71 w => stay prog (some (t_41, false)) m_44 t_43 w <| K s_71 w)) w fun t_50 w =>
      gate (some (t_47, false)) (fun K => pvv prog (oEq .neq 3 (.tmp 93) (.tmp 94) t_50 t_49) w K) w fun t_51 w =>
      pv prog (oPick t_47 (.bool true) t_51) w fun t_52 w =>
      gate (some (t_52, false)) (fun K => K t_0 w) w fun t_53 w =>
      gate (some (t_52, false)) (fun K => Calls prog 20 #[t_53] w (Ret fun s_70 w => stay prog (some (t_41, false)) m_44 t_43 w <| K s_70 w)) w fun t_54 w =>
      gate (some (t_52, false)) (fun K => pvv prog (oEq .neq 41 (.tmp 99) (.const (.int .i64 0)) t_54 (.int .i64 0)) w K) w fun t_55 w =>
      pv prog (oPick t_52 (.bool true) t_55) w fun t_56 w =>
      cd t_56 (
        K (.bool false) w) <|
      lp (fun σ w again_58 => pop σ fun i_57 σ => fin σ <|
        pv prog (oBi .len #[31] 3 #[false] #[t_28]) w fun t_59 w =>
        pvv prog (binOp .lss 3 i_57 t_59) w fun t_60 w =>
        cd t_60 (
          dr w fun w =>
          pvv prog (Instr.indexAt 31 t_28 i_57) w fun t_61 w =>
          pvv prog (binOp .add 3 k_23 i_57) w fun t_62 w =>
          pvv prog (Instr.indexAt 31 t_16 t_62) w fun t_63 w =>
          bindS (vN (Instr.loadAt 34 t_61)) fun m_65 => ldv prog (Instr.loadAt 34 t_61) w fun t_64 w =>
          bindS (vN (Instr.loadAt 34 t_63)) fun m_67 => ldv prog (Instr.loadAt 34 t_63) w fun t_66 w =>
          pvv prog (oEq .neq 34 (.tmp 111) (.tmp 117) t_64 t_66) w fun t_68 w =>
          cd t_68 (
            K (.bool false) w) <|
          pvv prog (binOp .add 3 i_57 (.int .i64 1)) w fun t_69 w =>
          again_58 [t_69] w) <|
        K (.bool true) w) [(.int .i64 0)] w))) fun k_73 =>
    pv prog (oBi .len #[31] 3 #[false] #[t_16]) w fun t_74 w =>
    pvv prog (binOp .gtr 3 t_74 (.int .i64 0)) w fun t_75 w =>
    cd t_75 (
      pvv prog (convert 5 3 n_p1) w fun t_76 w =>
      pv prog (oBi .len #[31] 3 #[false] #[t_16]) w fun t_77 w =>
      pvv prog (binOp .add 3 t_77 (.int .i64 1)) w fun t_78 w =>
      pvv prog (binOp .rem 3 t_76 t_78) w fun t_79 w =>
      k_73 [t_79] w) <|
    k_73 [(.int .i64 0)] w))))) [(.int .i64 0)] w)))
theorem B5_eq (l_p0 n_p1 : Value) (w : World) (K : Value → World → Prop) : denFn prog Tryd.f5 T5 [l_p0, n_p1] w K = B5 l_p0 n_p1 w K := by kernel_rfl
theorem c5 {l_p0 n_p1 : Value} {w : World} {K : Value → World → Prop} (h : B5 l_p0 n_p1 w K) : Calls prog 5 #[l_p0, n_p1] w (Ret K) :=
  denFn_calls Tryd.func5 T5_ok (Eq.mpr (B5_eq l_p0 n_p1 w K) h)

-- 18 (*holdfast/audit.Chain).Prune
def T18 : Ann := (.seq .none (.seq (.block (.seq .none (.seq (.seq .none .none) (.seq (.draw [(0, .load), (1, .load), (2, .pure), (3, .pure), (4, .pure), (5, .load), (6, .pure), (7, .pure), (8, .load), (9, .load), (10, .pure), (11, .pure), (12, .pure), (13, .load), (14, .pure), (15, .pure), (16, .pure)]) (.seq (.seq .none .none) .none))))) (.seq (.draw [(0, .load), (1, .load), (2, .pure), (3, .pure), (4, .pure), (5, .load), (6, .pure), (7, .pure)]) (.seq (.seq .none (.block (.range .none (.block (.seq .none (.seq (.seq .none .none) .none)))))) (.seq (.draw [(5, .pure), (0, .load), (1, .load), (2, .pure), (3, .pure), (4, .load), (6, .pure), (7, .eff), (8, .pure), (9, .pure), (10, .eff)]) (.seq .none .none))))))
theorem T18_ok : chkFn prog Tryd.f18 T18 = true := by kernel_rfl
def B18 (c_p0 n_p1 : Value) (w : World) (K : Value → World → Prop) : Prop :=
  efv prog (Instr.box 23 c_p0) w fun c_0 w =>
  efv prog (Instr.box 3 n_p1) w fun n_1 w =>
  ldv prog (Instr.loadAt 23 c_0) w fun t_2 w =>
  pvv prog (oEq .eql 23 (.tmp 9) (.const (.pointer none)) t_2 (.pointer none)) w fun t_3 w =>
  cd t_3 (
    K (.tuple #[(.int .i64 0), (.int .i64 1)]) w) <|
  dr w fun w =>
  bindS (vN (Instr.loadAt 3 n_1)) fun m_5 => ldv prog (Instr.loadAt 3 n_1) w fun t_4 w =>
  bindS (vN (Instr.loadAt 23 c_0)) fun m_7 => ldv prog (Instr.loadAt 23 c_0) w fun t_6 w =>
  pv prog (oNil t_6) w fun t_8 w =>
  pvv prog (Instr.fieldAt 59 t_8 1) w fun t_9 w =>
  pvv prog (Instr.fieldAt 57 t_9 0) w fun t_10 w =>
  bindS (vN (Instr.loadAt 3 t_10)) fun m_12 => ldv prog (Instr.loadAt 3 t_10) w fun t_11 w =>
  pvv prog (binOp .gtr 3 t_4 t_11) w fun t_13 w =>
  bindS (vN (Instr.loadAt 3 n_1)) fun m_15 => gate (some (t_13, false)) (fun K => ldv prog (Instr.loadAt 3 n_1) w K) w fun t_14 w =>
  bindS (vN (Instr.loadAt 23 c_0)) fun m_17 => gate (some (t_13, false)) (fun K => ldv prog (Instr.loadAt 23 c_0) w K) w fun t_16 w =>
  gate (some (t_13, false)) (fun K => pv prog (oNil t_16) w K) w fun t_18 w =>
  gate (some (t_13, false)) (fun K => pvv prog (Instr.fieldAt 59 t_18 0) w K) w fun t_19 w =>
  gate (some (t_13, false)) (fun K => pvv prog (Instr.fieldAt 57 t_19 0) w K) w fun t_20 w =>
  bindS (vN (Instr.loadAt 3 t_20)) fun m_22 => gate (some (t_13, false)) (fun K => ldv prog (Instr.loadAt 3 t_20) w K) w fun t_21 w =>
  gate (some (t_13, false)) (fun K => pvv prog (binOp .lss 3 t_14 t_21) w K) w fun t_23 w =>
  pv prog (oPick t_13 (.bool true) t_23) w fun t_24 w =>
  cd t_24 (
    K (.tuple #[(.int .i64 0), (.int .i64 2)]) w) <|
  dr w fun w =>
  bindS (vN (Instr.loadAt 3 n_1)) fun m_26 => ldv prog (Instr.loadAt 3 n_1) w fun t_25 w =>
  bindS (vN (Instr.loadAt 23 c_0)) fun m_28 => ldv prog (Instr.loadAt 23 c_0) w fun t_27 w =>
  pv prog (oNil t_27) w fun t_29 w =>
  pvv prog (Instr.fieldAt 59 t_29 0) w fun t_30 w =>
  pvv prog (Instr.fieldAt 57 t_30 0) w fun t_31 w =>
  bindS (vN (Instr.loadAt 3 t_31)) fun m_33 => ldv prog (Instr.loadAt 3 t_31) w fun t_32 w =>
  pvv prog (binOp .sub 3 t_25 t_32) w fun t_34 w =>
  ldv prog (Instr.loadAt 23 c_0) w fun t_35 w =>
  Calls prog 32 #[t_35] w (Ret fun t_36 w =>
  rng prog 1 t_36 (fun σ w bg_38 ex_39 => pop σ fun t_37 σ => fin σ <|
    efv prog (Instr.alloc 57 true (.tuple #[])) w fun p_40 w =>
    efu prog (Instr.storeAt 57 p_40 t_37) w fun u_41 w =>
    bg_38 w fun w =>
    pvv prog (Instr.fieldAt 57 p_40 0) w fun t_42 w =>
    ldv prog (Instr.loadAt 3 t_42) w fun t_43 w =>
    ldv prog (Instr.loadAt 3 n_1) w fun t_44 w =>
    pvv prog (oEq .eql 3 (.tmp 39) (.tmp 40) t_43 t_44) w fun t_45 w =>
    cd t_45 (
      ldv prog (Instr.loadAt 23 c_0) w fun t_46 w =>
      ldv prog (Instr.loadAt 57 p_40) w fun t_47 w =>
      pv prog (oNil t_46) w fun t_48 w =>
      pvv prog (Instr.fieldAt 59 t_48 0) w fun t_49 w =>
      efu prog (Instr.storeAt 57 t_49 t_47) w fun u_50 w =>
      ex_39 (.exit 1) w) <|
    ex_39 .normal w) w fun p_52 D_51 w =>
  jump (
    dr w fun w =>
    bindS (vN (Instr.loadAt 23 c_0)) fun m_54 => ldv prog (Instr.loadAt 23 c_0) w fun t_53 w =>
    bindS (vN (Instr.loadAt 23 c_0)) fun m_56 => ldv prog (Instr.loadAt 23 c_0) w fun t_55 w =>
    pv prog (oNil t_55) w fun t_57 w =>
    pvv prog (Instr.fieldAt 59 t_57 4) w fun t_58 w =>
    bindS (vN (Instr.loadAt 31 t_58)) fun m_60 => ldv prog (Instr.loadAt 31 t_58) w fun t_59 w =>
    pvv prog (Instr.sliceAt 31 t_59 (some t_34) none none) w fun t_61 w =>
    Calls prog 30 #[t_61] w (Ret fun t_62 w => stay prog none m_60 t_59 w <| stay prog none m_56 t_55 w <| stay prog none m_54 t_53 w <| 
    pv prog (oNil t_53) w fun t_63 w =>
    pvv prog (Instr.fieldAt 59 t_63 4) w fun t_64 w =>
    efu prog (Instr.storeAt 31 t_64 t_62) w fun u_65 w =>
    und [D_51] w fun w => K (.tuple #[t_34, (.int .i64 0)]) w)) (
    und [D_51] w fun w => K (.tuple #[(.int .i64 0), (.int .i64 0)]) w) [(1, dr w fun w =>
    bindS (vN (Instr.loadAt 23 c_0)) fun m_69 => ldv prog (Instr.loadAt 23 c_0) w fun t_68 w =>
    bindS (vN (Instr.loadAt 23 c_0)) fun m_71 => ldv prog (Instr.loadAt 23 c_0) w fun t_70 w =>
    pv prog (oNil t_70) w fun t_72 w =>
    pvv prog (Instr.fieldAt 59 t_72 4) w fun t_73 w =>
    bindS (vN (Instr.loadAt 31 t_73)) fun m_75 => ldv prog (Instr.loadAt 31 t_73) w fun t_74 w =>
    pvv prog (Instr.sliceAt 31 t_74 (some t_34) none none) w fun t_76 w =>
    Calls prog 30 #[t_76] w (Ret fun t_77 w => stay prog none m_75 t_74 w <| stay prog none m_71 t_70 w <| stay prog none m_69 t_68 w <| 
    pv prog (oNil t_68) w fun t_78 w =>
    pvv prog (Instr.fieldAt 59 t_78 4) w fun t_79 w =>
    efu prog (Instr.storeAt 31 t_79 t_77) w fun u_80 w =>
    und [D_51] w fun w => K (.tuple #[t_34, (.int .i64 0)]) w))] p_52)
theorem B18_eq (c_p0 n_p1 : Value) (w : World) (K : Value → World → Prop) : denFn prog Tryd.f18 T18 [c_p0, n_p1] w K = B18 c_p0 n_p1 w K := by kernel_rfl
theorem c18 {c_p0 n_p1 : Value} {w : World} {K : Value → World → Prop} (h : B18 c_p0 n_p1 w K) : Calls prog 18 #[c_p0, n_p1] w (Ret K) :=
  denFn_calls Tryd.func18 T18_ok (Eq.mpr (B18_eq c_p0 n_p1 w K) h)

-- 20 (*holdfast/audit.Chain).Verify
def T20 : Ann := (.seq .none (.seq (.seq .none (.seq (.seq .none .none) .none)) (.seq .none (.seq (.seq .none (.block (.range .none (.block (.seq (.seq (.draw [(0, .pure), (1, .load), (2, .load), (3, .pure), (4, .pure), (5, .pure), (6, .load), (7, .pure), (8, .pure), (9, .load), (10, .load), (11, .pure), (12, .pure), (13, .load), (14, .pure), (15, .pure)]) (.seq (.seq .none .none) .none)) .none))))) (.seq (.seq (.draw [(0, .pure), (1, .load), (2, .load), (3, .pure), (4, .pure), (5, .load), (6, .pure)]) (.seq (.seq .none .none) .none)) (.seq .none .none))))))
theorem T20_ok : chkFn prog Tryd.f20 T20 = true := by kernel_rfl
def B20 (c_p0 : Value) (w : World) (K : Value → World → Prop) : Prop :=
  efv prog (Instr.box 23 c_p0) w fun c_0 w =>
  efv prog (Instr.alloc 41 true (.tuple #[])) w fun t_1 w =>
  ldv prog (Instr.loadAt 23 c_0) w fun t_2 w =>
  pvv prog (oEq .eql 23 (.tmp 5) (.const (.pointer none)) t_2 (.pointer none)) w fun t_3 w =>
  cd t_3 (
    efu prog (Instr.storeAt 41 t_1 (.int .i64 1)) w fun u_4 w =>
    ∃ r_5, (do loadVar 41 (← asAddr t_1)).run prog w = .ok r_5 w ∧ K r_5 w) <|
  efv prog (Instr.alloc 57 true (.tuple #[])) w fun last_6 w =>
  ldv prog (Instr.loadAt 23 c_0) w fun t_7 w =>
  Calls prog 32 #[t_7] w (Ret fun t_8 w =>
  rng prog 1 t_8 (fun σ w bg_10 ex_11 => pop σ fun t_9 σ => fin σ <|
    efv prog (Instr.alloc 57 true (.tuple #[])) w fun p_12 w =>
    efu prog (Instr.storeAt 57 p_12 t_9) w fun u_13 w =>
    bg_10 w fun w =>
    dr w fun w =>
    pvv prog (Instr.fieldAt 57 p_12 0) w fun t_14 w =>
    bindS (vN (Instr.loadAt 3 t_14)) fun m_16 => ldv prog (Instr.loadAt 3 t_14) w fun t_15 w =>
    bindS (vN (Instr.loadAt 23 c_0)) fun m_18 => ldv prog (Instr.loadAt 23 c_0) w fun t_17 w =>
    pv prog (oNil t_17) w fun t_19 w =>
    pvv prog (Instr.fieldAt 59 t_19 1) w fun t_20 w =>
    pvv prog (Instr.fieldAt 57 t_20 0) w fun t_21 w =>
    bindS (vN (Instr.loadAt 3 t_21)) fun m_23 => ldv prog (Instr.loadAt 3 t_21) w fun t_22 w =>
    pvv prog (oEq .eql 3 (.tmp 11) (.tmp 16) t_15 t_22) w fun t_24 w =>
    bindS (vN (Instr.loadAt 57 p_12)) fun m_26 => gate (some (t_24, true)) (fun K => ldv prog (Instr.loadAt 57 p_12) w K) w fun t_25 w =>
    bindS (vN (Instr.loadAt 23 c_0)) fun m_28 => gate (some (t_24, true)) (fun K => ldv prog (Instr.loadAt 23 c_0) w K) w fun t_27 w =>
    gate (some (t_24, true)) (fun K => pv prog (oNil t_27) w K) w fun t_29 w =>
    gate (some (t_24, true)) (fun K => pvv prog (Instr.fieldAt 59 t_29 1) w K) w fun t_30 w =>
    bindS (vN (Instr.loadAt 57 t_30)) fun m_32 => gate (some (t_24, true)) (fun K => ldv prog (Instr.loadAt 57 t_30) w K) w fun t_31 w =>
    gate (some (t_24, true)) (fun K => pvv prog (oEq .neq 57 (.tmp 19) (.tmp 23) t_25 t_31) w K) w fun t_33 w =>
    pv prog (oPick t_24 t_33 (.bool false)) w fun t_34 w =>
    cd t_34 (
      efu prog (Instr.storeAt 41 t_1 (.int .i64 15)) w fun u_35 w =>
      ex_11 .ret w) <|
    ldv prog (Instr.loadAt 57 p_12) w fun t_36 w =>
    efu prog (Instr.storeAt 57 last_6 t_36) w fun u_37 w =>
    ex_11 .normal w) w fun p_39 D_38 w =>
  jump (
    dr w fun w =>
    pvv prog (Instr.fieldAt 57 last_6 1) w fun t_40 w =>
    bindS (vN (Instr.loadAt 36 t_40)) fun m_42 => ldv prog (Instr.loadAt 36 t_40) w fun t_41 w =>
    bindS (vN (Instr.loadAt 23 c_0)) fun m_44 => ldv prog (Instr.loadAt 23 c_0) w fun t_43 w =>
    pv prog (oNil t_43) w fun t_45 w =>
    pvv prog (Instr.fieldAt 59 t_45 2) w fun t_46 w =>
    bindS (vN (Instr.loadAt 36 t_46)) fun m_48 => ldv prog (Instr.loadAt 36 t_46) w fun t_47 w =>
    pvv prog (oEq .neq 36 (.tmp 28) (.tmp 32) t_41 t_47) w fun t_49 w =>
    cd t_49 (
      efu prog (Instr.storeAt 41 t_1 (.int .i64 15)) w fun u_50 w =>
      und [D_38] w fun w => ∃ r_51, (do loadVar 41 (← asAddr t_1)).run prog w = .ok r_51 w ∧ K r_51 w) <|
    efu prog (Instr.storeAt 41 t_1 (.int .i64 0)) w fun u_52 w =>
    und [D_38] w fun w => ∃ r_53, (do loadVar 41 (← asAddr t_1)).run prog w = .ok r_53 w ∧ K r_53 w) (
    und [D_38] w fun w => ∃ r_54, (do loadVar 41 (← asAddr t_1)).run prog w = .ok r_54 w ∧ K r_54 w) [] p_39)
theorem B20_eq (c_p0 : Value) (w : World) (K : Value → World → Prop) : denFn prog Tryd.f20 T20 [c_p0] w K = B20 c_p0 w K := by kernel_rfl
theorem c20 {c_p0 : Value} {w : World} {K : Value → World → Prop} (h : B20 c_p0 w K) : Calls prog 20 #[c_p0] w (Ret K) :=
  denFn_calls Tryd.func20 T20_ok (Eq.mpr (B20_eq c_p0 w K) h)

-- 29 (*holdfast/holdfastref14.Chain).Verify
def T29 : Ann := (.seq .none (.seq (.block (.seq .none (.seq (.seq .none .none) (.seq (.draw [(0, .pure), (1, .pure), (2, .pure), (3, .pure), (7, .pure), (8, .pure), (9, .pure), (4, .load), (5, .pure), (10, .load), (6, .eff), (11, .pure), (12, .pure)]) (.seq (.seq .none .none) (.seq (.draw [(0, .pure), (1, .pure), (2, .pure), (4, .pure), (5, .pure), (6, .pure), (3, .load), (7, .load), (8, .pure), (9, .pure), (10, .pure), (11, .pure), (12, .pure), (13, .pure), (15, .pure), (16, .pure), (17, .pure), (21, .pure), (22, .pure), (23, .pure), (14, .load), (18, .load), (19, .pure), (24, .load), (20, .eff), (25, .pure), (26, .pure), (27, .pure)]) (.seq (.seq .none .none) .none))))))) (.seq .none .none)))
theorem T29_ok : chkFn prog Tryd.f29 T29 = true := by kernel_rfl
def B29 (c_p0 : Value) (w : World) (K : Value → World → Prop) : Prop :=
  pvv prog (oEq .eql 25 (.tmp 4) (.const (.pointer none)) c_p0 (.pointer none)) w fun t_0 w =>
  cd t_0 (
    K (.int .i64 1) w) <|
  dr w fun w =>
  pv prog (oNil c_p0) w fun t_1 w =>
  pvv prog (Instr.fieldAt 61 t_1 6) w fun t_2 w =>
  pv prog (oNil c_p0) w fun t_3 w =>
  pvv prog (Instr.fieldAt 61 t_3 5) w fun t_4 w =>
  bindS (vN (Instr.loadAt 31 t_2)) fun m_6 => ldv prog (Instr.loadAt 31 t_2) w fun t_5 w =>
  pv prog (oBi .len #[31] 3 #[false] #[t_5]) w fun t_7 w =>
  bindS (vN (Instr.loadAt 36 t_4)) fun m_9 => ldv prog (Instr.loadAt 36 t_4) w fun t_8 w =>
  Calls prog 44 #[c_p0, t_7] w (Ret fun t_10 w => stay prog none m_9 t_8 w <| stay prog none m_6 t_5 w <| 
  pvv prog (oEq .neq 36 (.tmp 13) (.tmp 17) t_10 t_8) w fun t_11 w =>
  cd t_11 (
    K (.int .i64 15) w) <|
  dr w fun w =>
  pv prog (oNil c_p0) w fun t_12 w =>
  pvv prog (Instr.fieldAt 61 t_12 1) w fun t_13 w =>
  pv prog (oNil c_p0) w fun t_14 w =>
  pvv prog (Instr.fieldAt 61 t_14 0) w fun t_15 w =>
  bindS (vN (Instr.loadAt 3 t_13)) fun m_17 => ldv prog (Instr.loadAt 3 t_13) w fun t_16 w =>
  bindS (vN (Instr.loadAt 3 t_15)) fun m_19 => ldv prog (Instr.loadAt 3 t_15) w fun t_18 w =>
  pvv prog (binOp .geq 3 t_16 t_18) w fun t_20 w =>
  gate (some (t_20, true)) (fun K => K c_p0 w) w fun t_21 w =>
  gate (some (t_20, true)) (fun K => K c_p0 w) w fun t_22 w =>
  gate (some (t_20, true)) (fun K => pv prog (oNil t_22) w K) w fun t_23 w =>
  gate (some (t_20, true)) (fun K => pvv prog (Instr.fieldAt 61 t_23 1) w K) w fun t_24 w =>
  gate (some (t_20, true)) (fun K => K c_p0 w) w fun t_25 w =>
  gate (some (t_20, true)) (fun K => pv prog (oNil t_25) w K) w fun t_26 w =>
  gate (some (t_20, true)) (fun K => pvv prog (Instr.fieldAt 61 t_26 0) w K) w fun t_27 w =>
  gate (some (t_20, true)) (fun K => K c_p0 w) w fun t_28 w =>
  gate (some (t_20, true)) (fun K => pv prog (oNil t_28) w K) w fun t_29 w =>
  gate (some (t_20, true)) (fun K => pvv prog (Instr.fieldAt 61 t_29 4) w K) w fun t_30 w =>
  bindS (vN (Instr.loadAt 3 t_24)) fun m_32 => gate (some (t_20, true)) (fun K => ldv prog (Instr.loadAt 3 t_24) w K) w fun t_31 w =>
  bindS (vN (Instr.loadAt 3 t_27)) fun m_34 => gate (some (t_20, true)) (fun K => ldv prog (Instr.loadAt 3 t_27) w K) w fun t_33 w =>
  gate (some (t_20, true)) (fun K => pvv prog (binOp .sub 3 t_31 t_33) w K) w fun t_35 w =>
  bindS (vN (Instr.loadAt 36 t_30)) fun m_37 => gate (some (t_20, true)) (fun K => ldv prog (Instr.loadAt 36 t_30) w K) w fun t_36 w =>
  gate (some (t_20, true)) (fun K => Calls prog 44 #[t_21, t_35] w (Ret fun s_41 w => stay prog (some (t_20, true)) m_37 t_36 w <| stay prog (some (t_20, true)) m_34 t_33 w <| stay prog (some (t_20, true)) m_32 t_31 w <| stay prog none m_19 t_18 w <| stay prog none m_17 t_16 w <| K s_41 w)) w fun t_38 w =>
  gate (some (t_20, true)) (fun K => pvv prog (oEq .neq 36 (.tmp 40) (.tmp 44) t_38 t_36) w K) w fun t_39 w =>
  pv prog (oPick t_20 t_39 (.bool false)) w fun t_40 w =>
  cd t_40 (
    K (.int .i64 15) w) <|
  K (.int .i64 0) w)
theorem B29_eq (c_p0 : Value) (w : World) (K : Value → World → Prop) : denFn prog Tryd.f29 T29 [c_p0] w K = B29 c_p0 w K := by kernel_rfl
theorem c29 {c_p0 : Value} {w : World} {K : Value → World → Prop} (h : B29 c_p0 w K) : Calls prog 29 #[c_p0] w (Ret K) :=
  denFn_calls Tryd.func29 T29_ok (Eq.mpr (B29_eq c_p0 w K) h)

-- 47 (*holdfast/audit.Chain).links$1
def T47 : Ann := (.seq .none (.seq (.seq .none (.seq .none .none)) (.seq .none (.block (.loop 68718952480 [19] (.seq .none (.seq (.seq .none .none) (.seq (.block (.seq .none (.seq (.draw [(0, .pure), (3, .pure), (1, .load), (2, .pure), (4, .load), (5, .load), (6, .eff), (7, .pure), (8, .eff)]) (.seq .none (.seq .none .none))))) .none))))))))
theorem T47_ok : chkFn prog Tryd.f47 T47 = true := by kernel_rfl
def B47 (yield_p0 x_p1 : Value) (w : World) (K : Value → World → Prop) : Prop :=
  ldv prog (Instr.loadAt 23 x_p1) w fun t_0 w =>
  pv prog (oNil t_0) w fun t_1 w =>
  pvv prog (Instr.fieldAt 59 t_1 0) w fun t_2 w =>
  ldv prog (Instr.loadAt 57 t_2) w fun t_3 w =>
  efv prog (Instr.alloc 57 true (.tuple #[])) w fun p_4 w =>
  efu prog (Instr.storeAt 57 p_4 t_3) w fun u_5 w =>
  ldv prog (Instr.loadAt 57 p_4) w fun t_6 w =>
  ef prog (oCall yield_p0 #[t_6]) w fun t_7 w =>
  pvv prog (Op.unary .not t_7) w fun t_8 w =>
  cd t_8 (
    K (.tuple #[]) w) <|
  ldv prog (Instr.loadAt 23 x_p1) w fun t_9 w =>
  pv prog (oNil t_9) w fun t_10 w =>
  pvv prog (Instr.fieldAt 59 t_10 4) w fun t_11 w =>
  ldv prog (Instr.loadAt 31 t_11) w fun t_12 w =>
  pv prog (oBi .len #[31] 3 #[false] #[t_12]) w fun t_13 w =>
  lp (fun σ w again_15 => pop σ fun t_14 σ => fin σ <|
    pvv prog (binOp .lss 3 t_14 t_13) w fun t_16 w =>
    cd t_16 (
      pvv prog (Instr.indexAt 31 t_12 t_14) w fun t_17 w =>
      ldv prog (Instr.loadAt 34 t_17) w fun t_18 w =>
      efv prog (Instr.alloc 34 true (.tuple #[])) w fun x_19 w =>
      efu prog (Instr.storeAt 34 x_19 t_18) w fun u_20 w =>
      dr w fun w =>
      pvv prog (Instr.fieldAt 57 p_4 0) w fun t_21 w =>
      pvv prog (Instr.fieldAt 57 p_4 1) w fun t_22 w =>
      bindS (vN (Instr.loadAt 3 t_21)) fun m_24 => ldv prog (Instr.loadAt 3 t_21) w fun t_23 w =>
      pvv prog (binOp .add 3 t_23 (.int .i64 1)) w fun t_25 w =>
      bindS (vN (Instr.loadAt 36 t_22)) fun m_27 => ldv prog (Instr.loadAt 36 t_22) w fun t_26 w =>
      bindS (vN (Instr.loadAt 34 x_19)) fun m_29 => ldv prog (Instr.loadAt 34 x_19) w fun t_28 w =>
      Calls prog 31 #[t_26, t_28] w (Ret fun t_30 w => stay prog none m_24 t_23 w <| 
      pvv prog (Instr.build 57 #[(0, t_25), (1, t_30)]) w fun t_31 w =>
      efu prog (Instr.storeAt 57 p_4 t_31) w fun u_32 w =>
      ldv prog (Instr.loadAt 57 p_4) w fun t_33 w =>
      ef prog (oCall yield_p0 #[t_33]) w fun t_34 w =>
      pvv prog (Op.unary .not t_34) w fun t_35 w =>
      cd t_35 (
        K (.tuple #[]) w) <|
      pvv prog (binOp .add 3 t_14 (.int .i64 1)) w fun t_36 w =>
      again_15 [t_36] w)) <|
    K (.tuple #[]) w) [(.int .i64 0)] w
theorem B47_eq (yield_p0 x_p1 : Value) (w : World) (K : Value → World → Prop) : denFn prog Tryd.f47 T47 [yield_p0, x_p1] w K = B47 yield_p0 x_p1 w K := by kernel_rfl
theorem c47 {yield_p0 x_p1 : Value} {w : World} {K : Value → World → Prop} (h : B47 yield_p0 x_p1 w K) : Calls prog 47 #[yield_p0, x_p1] w (Ret K) :=
  denFn_calls Tryd.func47 T47_ok (Eq.mpr (B47_eq yield_p0 x_p1 w K) h)

-- 91 unicode/utf8.DecodeLastRuneInString
def T91 : Ann := (.seq .none (.seq .none (.seq (.seq .none (.seq (.seq .none .none) .none)) (.seq .none (.seq .none (.seq (.seq .none (.seq (.seq .none .none) .none)) (.seq .none (.meet 17171480608 [5] (.seq .none (.block (.loop 17146314784 [5] (.seq (.seq .none (.seq .none .none)) (.seq (.block (.seq .none (.seq .none .none))) .none))))) (.meet 51539607584 [5] (.seq .none (.seq .none .none)) (.seq .none (.seq (.seq .none (.seq (.seq .none .none) .none)) (.seq .none .none))))))))))))
theorem T91_ok : chkFn prog Tryd.f91 T91 = true := by kernel_rfl
def B91 (s_p0 : Value) (w : World) (K : Value → World → Prop) : Prop :=
  pv prog (oBi .len #[9] 3 #[false] #[s_p0]) w fun t_0 w =>
  pvv prog (oEq .eql 3 (.tmp 9) (.const (.int .i64 0)) t_0 (.int .i64 0)) w fun t_1 w =>
  cd t_1 (
    K (.tuple #[(.int .i32 65533), (.int .i64 0)]) w) <|
  pvv prog (binOp .sub 3 t_0 (.int .i64 1)) w fun t_2 w =>
  pvv prog (Instr.index 9 s_p0 t_2) w fun t_3 w =>
  pvv prog (convert 5 21 t_3) w fun t_4 w =>
  pvv prog (binOp .lss 21 t_4 (.int .i32 128)) w fun t_5 w =>
  cd t_5 (
    K (.tuple #[t_4, (.int .i64 1)]) w) <|
  pvv prog (binOp .sub 3 t_0 (.int .i64 4)) w fun t_6 w =>
  pv prog (oBi .max #[3, 3] 3 #[false, true] #[t_6, (.int .i64 0)]) w fun t_7 w =>
  jn (fun σ w => pop σ fun start_8 σ => fin σ <|
    jn (fun σ w => pop σ fun start_9 σ => fin σ <|
      pvv prog (Instr.sliceAt 9 s_p0 (some start_9) (some t_0) none) w fun t_10 w =>
      Calls prog 89 #[t_10] w (Ret fun t_11 w =>
      pvv prog (Instr.extract t_11 0) w fun t_12 w =>
      pvv prog (Instr.extract t_11 1) w fun t_13 w =>
      pvv prog (binOp .add 3 start_9 t_13) w fun t_14 w =>
      pvv prog (oEq .neq 3 (.tmp 46) (.tmp 47) t_14 t_0) w fun t_15 w =>
      cd t_15 (
        K (.tuple #[(.int .i32 65533), (.int .i64 1)]) w) <|
      K (.tuple #[t_12, t_13]) w)) fun k_16 =>
    pvv prog (binOp .lss 3 start_8 (.int .i64 0)) w fun t_17 w =>
    cd t_17 (
      k_16 [(.int .i64 0)] w) <|
    k_16 [start_8] w) fun k_18 =>
  pvv prog (binOp .sub 3 t_2 (.int .i64 1)) w fun t_19 w =>
  lp (fun σ w again_21 => pop σ fun start_20 σ => fin σ <|
    pvv prog (binOp .geq 3 start_20 t_7) w fun t_22 w =>
    cd t_22 (
      pvv prog (Instr.index 9 s_p0 start_20) w fun t_23 w =>
      Calls prog 105 #[t_23] w (Ret fun t_24 w =>
      cd t_24 (
        k_18 [start_20] w) <|
      pvv prog (binOp .sub 3 start_20 (.int .i64 1)) w fun t_25 w =>
      again_21 [t_25] w)) <|
    k_18 [start_20] w) [t_19] w
theorem B91_eq (s_p0 : Value) (w : World) (K : Value → World → Prop) : denFn prog Tryd.f91 T91 [s_p0] w K = B91 s_p0 w K := by kernel_rfl
theorem c91 {s_p0 : Value} {w : World} {K : Value → World → Prop} (h : B91 s_p0 w K) : Calls prog 91 #[s_p0] w (Ret K) :=
  denFn_calls Tryd.func91 T91_ok (Eq.mpr (B91_eq s_p0 w K) h)

-- 28 (*holdfast/holdfastref14.Chain).Prune
def T28 : Ann := (.seq .none (.seq (.seq .none (.seq (.seq .none .none) .none)) (.seq (.seq .none (.seq (.seq .none .none) .none)) (.seq .none (.seq .none (.seq .none (.seq .none (.seq .none (.seq .none .none)))))))))
theorem T28_ok : chkFn prog Tryd.f28 T28 = true := by kernel_rfl
def B28 (c_p0 n_p1 : Value) (w : World) (K : Value → World → Prop) : Prop :=
  pvv prog (oEq .eql 25 (.tmp 8) (.const (.pointer none)) c_p0 (.pointer none)) w fun t_0 w =>
  cd t_0 (
    K (.tuple #[(.int .i64 0), (.int .i64 1)]) w) <|
  pv prog (oNil c_p0) w fun t_1 w =>
  pvv prog (Instr.fieldAt 61 t_1 1) w fun t_2 w =>
  ldv prog (Instr.loadAt 3 t_2) w fun t_3 w =>
  pvv prog (binOp .gtr 3 n_p1 t_3) w fun t_4 w =>
  gate (some (t_4, false)) (fun K => K n_p1 w) w fun t_5 w =>
  gate (some (t_4, false)) (fun K => K c_p0 w) w fun t_6 w =>
  gate (some (t_4, false)) (fun K => pv prog (oNil t_6) w K) w fun t_7 w =>
  gate (some (t_4, false)) (fun K => pvv prog (Instr.fieldAt 61 t_7 0) w K) w fun t_8 w =>
  gate (some (t_4, false)) (fun K => ldv prog (Instr.loadAt 3 t_8) w K) w fun t_9 w =>
  gate (some (t_4, false)) (fun K => pvv prog (binOp .lss 3 t_5 t_9) w K) w fun t_10 w =>
  pv prog (oPick t_4 (.bool true) t_10) w fun t_11 w =>
  cd t_11 (
    K (.tuple #[(.int .i64 0), (.int .i64 2)]) w) <|
  pv prog (oNil c_p0) w fun t_12 w =>
  pvv prog (Instr.fieldAt 61 t_12 0) w fun t_13 w =>
  ldv prog (Instr.loadAt 3 t_13) w fun t_14 w =>
  pvv prog (binOp .sub 3 n_p1 t_14) w fun t_15 w =>
  Calls prog 44 #[c_p0, t_15] w (Ret fun t_16 w =>
  pv prog (oNil c_p0) w fun t_17 w =>
  pvv prog (Instr.fieldAt 61 t_17 3) w fun t_18 w =>
  efu prog (Instr.storeAt 36 t_18 t_16) w fun u_19 w =>
  pv prog (oNil c_p0) w fun t_20 w =>
  pvv prog (Instr.fieldAt 61 t_20 0) w fun t_21 w =>
  efu prog (Instr.storeAt 3 t_21 n_p1) w fun u_22 w =>
  pv prog (oNil c_p0) w fun t_23 w =>
  pvv prog (Instr.fieldAt 61 t_23 6) w fun t_24 w =>
  ldv prog (Instr.loadAt 31 t_24) w fun t_25 w =>
  pvv prog (Instr.sliceAt 31 t_25 (some t_15) none none) w fun t_26 w =>
  ef prog (oBi .append #[31, 31] 31 #[false, false] #[(.slice none 0 0), t_26]) w fun t_27 w =>
  pv prog (oNil c_p0) w fun t_28 w =>
  pvv prog (Instr.fieldAt 61 t_28 6) w fun t_29 w =>
  efu prog (Instr.storeAt 31 t_29 t_27) w fun u_30 w =>
  K (.tuple #[t_15, (.int .i64 0)]) w)
theorem B28_eq (c_p0 n_p1 : Value) (w : World) (K : Value → World → Prop) : denFn prog Tryd.f28 T28 [c_p0, n_p1] w K = B28 c_p0 n_p1 w K := by kernel_rfl
theorem c28 {c_p0 n_p1 : Value} {w : World} {K : Value → World → Prop} (h : B28 c_p0 n_p1 w K) : Calls prog 28 #[c_p0, n_p1] w (Ret K) :=
  denFn_calls Tryd.func28 T28_ok (Eq.mpr (B28_eq c_p0 n_p1 w K) h)

-- 67 holdfast/hash.rounds
def T67 : Ann := (.seq .none (.seq .none .none))
theorem T67_ok : chkFn prog Tryd.f67 T67 = true := by kernel_rfl
def B67 (w : World) (K : Value → World → Prop) : Prop :=
  pvv prog (Instr.build 121 #[(0, (.int .u32 1116352408)), (1, (.int .u32 1899447441)), (2, (.int .u32 3049323471)), (3, (.int .u32 3921009573)), (4, (.int .u32 961987163)), (5, (.int .u32 1508970993)), (6, (.int .u32 2453635748)), (7, (.int .u32 2870763221)), (8, (.int .u32 3624381080)), (9, (.int .u32 310598401)), (10, (.int .u32 607225278)), (11, (.int .u32 1426881987)), (12, (.int .u32 1925078388)), (13, (.int .u32 2162078206)), (14, (.int .u32 2614888103)), (15, (.int .u32 3248222580)), (16, (.int .u32 3835390401)), (17, (.int .u32 4022224774)), (18, (.int .u32 264347078)), (19, (.int .u32 604807628)), (20, (.int .u32 770255983)), (21, (.int .u32 1249150122)), (22, (.int .u32 1555081692)), (23, (.int .u32 1996064986)), (24, (.int .u32 2554220882)), (25, (.int .u32 2821834349)), (26, (.int .u32 2952996808)), (27, (.int .u32 3210313671)), (28, (.int .u32 3336571891)), (29, (.int .u32 3584528711)), (30, (.int .u32 113926993)), (31, (.int .u32 338241895)), (32, (.int .u32 666307205)), (33, (.int .u32 773529912)), (34, (.int .u32 1294757372)), (35, (.int .u32 1396182291)), (36, (.int .u32 1695183700)), (37, (.int .u32 1986661051)), (38, (.int .u32 2177026350)), (39, (.int .u32 2456956037)), (40, (.int .u32 2730485921)), (41, (.int .u32 2820302411)), (42, (.int .u32 3259730800)), (43, (.int .u32 3345764771)), (44, (.int .u32 3516065817)), (45, (.int .u32 3600352804)), (46, (.int .u32 4094571909)), (47, (.int .u32 275423344)), (48, (.int .u32 430227734)), (49, (.int .u32 506948616)), (50, (.int .u32 659060556)), (51, (.int .u32 883997877)), (52, (.int .u32 958139571)), (53, (.int .u32 1322822218)), (54, (.int .u32 1537002063)), (55, (.int .u32 1747873779)), (56, (.int .u32 1955562222)), (57, (.int .u32 2024104815)), (58, (.int .u32 2227730452)), (59, (.int .u32 2361852424)), (60, (.int .u32 2428436474)), (61, (.int .u32 2756734187)), (62, (.int .u32 3204031479)), (63, (.int .u32 3329325298))]) w fun t_0 w =>
  efv prog (Instr.box 121 t_0) w fun t_1 w =>
  K t_1 w
theorem B67_eq (w : World) (K : Value → World → Prop) : denFn prog Tryd.f67 T67 [] w K = B67  w K := by kernel_rfl
theorem c67 {w : World} {K : Value → World → Prop} (h : B67  w K) : Calls prog 67 #[] w (Ret K) :=
  denFn_calls Tryd.func67 T67_ok (Eq.mpr (B67_eq  w K) h)

-- 27 (*holdfast/holdfastref14.Chain).Anchor
def T27 : Ann := (.seq .none (.seq (.seq .none (.seq (.seq .none .none) .none)) (.seq (.draw [(0, .pure), (1, .pure), (2, .pure), (4, .pure), (5, .pure), (6, .pure), (7, .load), (3, .eff), (8, .pure), (9, .pure), (10, .eff), (11, .pure), (12, .pure), (13, .eff)]) (.seq (.draw [(0, .pure), (1, .pure), (2, .pure), (4, .pure), (5, .pure), (6, .pure), (3, .load), (8, .pure), (7, .load), (9, .eff)]) .none))))
theorem T27_ok : chkFn prog Tryd.f27 T27 = true := by kernel_rfl
def B27 (c_p0 : Value) (w : World) (K : Value → World → Prop) : Prop :=
  efv prog (Instr.alloc 36 true (.tuple #[])) w fun t_0 w =>
  pvv prog (oEq .eql 25 (.tmp 4) (.const (.pointer none)) c_p0 (.pointer none)) w fun t_1 w =>
  cd t_1 (
    pvv prog (Instr.build 36 #[]) w fun t_2 w =>
    efu prog (Instr.storeAt 36 t_0 t_2) w fun u_3 w =>
    ∃ r_4, (do loadVar 36 (← asAddr t_0)).run prog w = .ok r_4 w ∧ K (.tuple #[(.int .i64 0), r_4]) w) <|
  dr w fun w =>
  pv prog (oNil c_p0) w fun t_5 w =>
  pvv prog (Instr.fieldAt 61 t_5 5) w fun t_6 w =>
  bindS (vN (Instr.loadAt 36 t_6)) fun m_8 => ldv prog (Instr.loadAt 36 t_6) w fun t_7 w =>
  Calls prog 36 #[c_p0] w (Ret fun t_9 w => stay prog none m_8 t_7 w <| 
  pv prog (oNil c_p0) w fun t_10 w =>
  pvv prog (Instr.fieldAt 61 t_10 1) w fun t_11 w =>
  efu prog (Instr.storeAt 3 t_11 t_9) w fun u_12 w =>
  pv prog (oNil c_p0) w fun t_13 w =>
  pvv prog (Instr.fieldAt 61 t_13 4) w fun t_14 w =>
  efu prog (Instr.storeAt 36 t_14 t_7) w fun u_15 w =>
  dr w fun w =>
  pv prog (oNil c_p0) w fun t_16 w =>
  pvv prog (Instr.fieldAt 61 t_16 1) w fun t_17 w =>
  pv prog (oNil c_p0) w fun t_18 w =>
  pvv prog (Instr.fieldAt 61 t_18 4) w fun t_19 w =>
  bindS (vN (Instr.loadAt 3 t_17)) fun m_21 => ldv prog (Instr.loadAt 3 t_17) w fun t_20 w =>
  bindS (vN (Instr.loadAt 36 t_19)) fun m_23 => ldv prog (Instr.loadAt 36 t_19) w fun t_22 w =>
  efu prog (Instr.storeAt 36 t_0 t_22) w fun u_24 w =>
  ∃ r_25, (do loadVar 36 (← asAddr t_0)).run prog w = .ok r_25 w ∧ K (.tuple #[t_20, r_25]) w)
theorem B27_eq (c_p0 : Value) (w : World) (K : Value → World → Prop) : denFn prog Tryd.f27 T27 [c_p0] w K = B27 c_p0 w K := by kernel_rfl
theorem c27 {c_p0 : Value} {w : World} {K : Value → World → Prop} (h : B27 c_p0 w K) : Calls prog 27 #[c_p0] w (Ret K) :=
  denFn_calls Tryd.func27 T27_ok (Eq.mpr (B27_eq c_p0 w K) h)

-- 58 holdfast/holdfastref02.Number
def T58 : Ann := (.seq .none (.seq (.seq .none (.seq (.seq .none .none) .none)) (.seq .none (.seq .none (.seq (.block (.loop 33550385 [0, 4, 5] (.seq (.seq .none (.seq .none .none)) (.seq (.block (.seq .none .none)) .none)))) (.seq .none .none))))))
theorem T58_ok : chkFn prog Tryd.f58 T58 = true := by kernel_rfl
def B58 (n_p0 : Value) (w : World) (K : Value → World → Prop) : Prop :=
  pvv prog (binOp .lss 3 n_p0 (.int .i64 0)) w fun t_0 w =>
  gate (some (t_0, false)) (fun K => K n_p0 w) w fun t_1 w =>
  gate (some (t_0, false)) (fun K => pvv prog (binOp .gtr 3 t_1 (.int .i64 4611686018427387904)) w K) w fun t_2 w =>
  pv prog (oPick t_0 (.bool true) t_2) w fun t_3 w =>
  cd t_3 (
    K (.tuple #[(.string ⟨#[]⟩), (.int .i64 2)]) w) <|
  lp (fun σ w again_7 => pop σ fun n_4 σ => pop σ fun s_5 σ => pop σ fun k_6 σ => fin σ <|
    pvv prog (binOp .gtr 3 n_4 (.int .i64 0)) w fun t_8 w =>
    cd t_8 (
      pvv prog (binOp .rem 3 n_4 (.int .i64 16)) w fun t_9 w =>
      Calls prog 70 #[t_9] w (Ret fun t_10 w =>
      efv prog (Instr.buildSlice 72 1 #[(0, t_10)]) w fun t_11 w =>
      efv prog (convert 72 9 t_11) w fun t_12 w =>
      pvv prog (binOp .add 9 t_12 s_5) w fun t_13 w =>
      pvv prog (binOp .add 3 k_6 (.int .i64 1)) w fun t_14 w =>
      pvv prog (binOp .quo 3 n_4 (.int .i64 16)) w fun t_15 w =>
      again_7 [t_15, t_13, t_14] w)) <|
    pvv prog (binOp .add 3 (.int .i64 97) k_6) w fun t_16 w =>
    pvv prog (convert 3 5 t_16) w fun t_17 w =>
    efv prog (Instr.buildSlice 72 1 #[(0, t_17)]) w fun t_18 w =>
    efv prog (convert 72 9 t_18) w fun t_19 w =>
    pvv prog (binOp .add 9 t_19 s_5) w fun t_20 w =>
    K (.tuple #[t_20, (.int .i64 0)]) w) [n_p0, (.string ⟨#[]⟩), (.int .i64 0)] w
theorem B58_eq (n_p0 : Value) (w : World) (K : Value → World → Prop) : denFn prog Tryd.f58 T58 [n_p0] w K = B58 n_p0 w K := by kernel_rfl
theorem c58 {n_p0 : Value} {w : World} {K : Value → World → Prop} (h : B58 n_p0 w K) : Calls prog 58 #[n_p0] w (Ret K) :=
  denFn_calls Tryd.func58 T58_ok (Eq.mpr (B58_eq n_p0 w K) h)

-- 48 holdfast/holdfastref02.SameTexts
def T48 : Ann := (.seq .none (.seq (.seq .none (.seq (.seq .none .none) .none)) (.seq (.seq .none (.block (.loop 67106864 [5] (.seq (.seq .none (.seq .none .none)) (.seq (.block (.seq (.draw [(0, .pure), (1, .pure), (2, .pure), (4, .pure), (5, .pure), (6, .pure), (3, .load), (7, .load), (8, .pure)]) (.seq (.seq .none .none) .none))) .none))))) (.seq .none .none))))
theorem T48_ok : chkFn prog Tryd.f48 T48 = true := by kernel_rfl
def B48 (a_p0 b_p1 : Value) (w : World) (K : Value → World → Prop) : Prop :=
  pv prog (oBi .len #[69] 3 #[false] #[a_p0]) w fun t_0 w =>
  pv prog (oBi .len #[69] 3 #[false] #[b_p1]) w fun t_1 w =>
  pvv prog (oEq .neq 3 (.tmp 7) (.tmp 9) t_0 t_1) w fun t_2 w =>
  cd t_2 (
    K (.bool false) w) <|
  lp (fun σ w again_4 => pop σ fun i_3 σ => fin σ <|
    pv prog (oBi .len #[69] 3 #[false] #[a_p0]) w fun t_5 w =>
    pvv prog (binOp .lss 3 i_3 t_5) w fun t_6 w =>
    cd t_6 (
      dr w fun w =>
      pvv prog (Instr.indexAt 69 a_p0 i_3) w fun t_7 w =>
      pvv prog (Instr.indexAt 69 b_p1 i_3) w fun t_8 w =>
      bindS (vN (Instr.loadAt 9 t_7)) fun m_10 => ldv prog (Instr.loadAt 9 t_7) w fun t_9 w =>
      bindS (vN (Instr.loadAt 9 t_8)) fun m_12 => ldv prog (Instr.loadAt 9 t_8) w fun t_11 w =>
      pvv prog (oEq .neq 9 (.tmp 20) (.tmp 24) t_9 t_11) w fun t_13 w =>
      cd t_13 (
        K (.bool false) w) <|
      pvv prog (binOp .add 3 i_3 (.int .i64 1)) w fun t_14 w =>
      again_4 [t_14] w) <|
    K (.bool true) w) [(.int .i64 0)] w
theorem B48_eq (a_p0 b_p1 : Value) (w : World) (K : Value → World → Prop) : denFn prog Tryd.f48 T48 [a_p0, b_p1] w K = B48 a_p0 b_p1 w K := by kernel_rfl
theorem c48 {a_p0 b_p1 : Value} {w : World} {K : Value → World → Prop} (h : B48 a_p0 b_p1 w K) : Calls prog 48 #[a_p0, b_p1] w (Ret K) :=
  denFn_calls Tryd.func48 T48_ok (Eq.mpr (B48_eq a_p0 b_p1 w K) h)

-- 34 (*holdfast/holdfastref14.Chain).Anchored
def T34 : Ann := (.seq .none (.seq (.seq .none (.seq (.seq .none .none) .none)) (.seq (.draw [(0, .pure), (1, .pure), (2, .pure), (4, .pure), (5, .pure), (6, .pure), (3, .load), (8, .pure), (7, .load), (9, .eff)]) .none)))
theorem T34_ok : chkFn prog Tryd.f34 T34 = true := by kernel_rfl
def B34 (c_p0 : Value) (w : World) (K : Value → World → Prop) : Prop :=
  efv prog (Instr.alloc 36 true (.tuple #[])) w fun t_0 w =>
  pvv prog (oEq .eql 25 (.tmp 4) (.const (.pointer none)) c_p0 (.pointer none)) w fun t_1 w =>
  cd t_1 (
    pvv prog (Instr.build 36 #[]) w fun t_2 w =>
    efu prog (Instr.storeAt 36 t_0 t_2) w fun u_3 w =>
    ∃ r_4, (do loadVar 36 (← asAddr t_0)).run prog w = .ok r_4 w ∧ K (.tuple #[(.int .i64 0), r_4]) w) <|
  dr w fun w =>
  pv prog (oNil c_p0) w fun t_5 w =>
  pvv prog (Instr.fieldAt 61 t_5 1) w fun t_6 w =>
  pv prog (oNil c_p0) w fun t_7 w =>
  pvv prog (Instr.fieldAt 61 t_7 4) w fun t_8 w =>
  bindS (vN (Instr.loadAt 3 t_6)) fun m_10 => ldv prog (Instr.loadAt 3 t_6) w fun t_9 w =>
  bindS (vN (Instr.loadAt 36 t_8)) fun m_12 => ldv prog (Instr.loadAt 36 t_8) w fun t_11 w =>
  efu prog (Instr.storeAt 36 t_0 t_11) w fun u_13 w =>
  ∃ r_14, (do loadVar 36 (← asAddr t_0)).run prog w = .ok r_14 w ∧ K (.tuple #[t_9, r_14]) w
theorem B34_eq (c_p0 : Value) (w : World) (K : Value → World → Prop) : denFn prog Tryd.f34 T34 [c_p0] w K = B34 c_p0 w K := by kernel_rfl
theorem c34 {c_p0 : Value} {w : World} {K : Value → World → Prop} (h : B34 c_p0 w K) : Calls prog 34 #[c_p0] w (Ret K) :=
  denFn_calls Tryd.func34 T34_ok (Eq.mpr (B34_eq c_p0 w K) h)

-- 79 strings.trimLeftUnicode
def T79 : Ann := (.seq .none (.meet 4194273 [0] (.block (.loop 4194273 [0] (.seq (.seq .none (.seq .none .none)) (.block (.seq .none (.seq (.seq .none (.seq .none .none)) .none)))))) (.seq .none .none)))
theorem T79_ok : chkFn prog Tryd.f79 T79 = true := by kernel_rfl
def B79 (s_p0 cutset_p1 : Value) (w : World) (K : Value → World → Prop) : Prop :=
  jn (fun σ w => pop σ fun s_0 σ => fin σ <|
    K s_0 w) fun k_1 =>
  lp (fun σ w again_3 => pop σ fun s_2 σ => fin σ <|
    pv prog (oBi .len #[9] 3 #[false] #[s_2]) w fun t_4 w =>
    pvv prog (binOp .gtr 3 t_4 (.int .i64 0)) w fun t_5 w =>
    cd t_5 (
      Calls prog 89 #[s_2] w (Ret fun t_6 w =>
      pvv prog (Instr.extract t_6 0) w fun t_7 w =>
      pvv prog (Instr.extract t_6 1) w fun t_8 w =>
      Calls prog 90 #[cutset_p1, t_7] w (Ret fun t_9 w =>
      pvv prog (Op.unary .not t_9) w fun t_10 w =>
      cd t_10 (
        k_1 [s_2] w) <|
      pvv prog (Instr.sliceAt 9 s_2 (some t_8) none none) w fun t_11 w =>
      again_3 [t_11] w))) <|
    k_1 [s_2] w) [s_p0] w
theorem B79_eq (s_p0 cutset_p1 : Value) (w : World) (K : Value → World → Prop) : denFn prog Tryd.f79 T79 [s_p0, cutset_p1] w K = B79 s_p0 cutset_p1 w K := by kernel_rfl
theorem c79 {s_p0 cutset_p1 : Value} {w : World} {K : Value → World → Prop} (h : B79 s_p0 cutset_p1 w K) : Calls prog 79 #[s_p0, cutset_p1] w (Ret K) :=
  denFn_calls Tryd.func79 T79_ok (Eq.mpr (B79_eq s_p0 cutset_p1 w K) h)

-- 73 internal/stringslite.HasPrefix
def T73 : Ann := (.seq .none (.seq .none .none))
theorem T73_ok : chkFn prog Tryd.f73 T73 = true := by kernel_rfl
def B73 (s_p0 prefix_p1 : Value) (w : World) (K : Value → World → Prop) : Prop :=
  pv prog (oBi .len #[9] 3 #[false] #[s_p0]) w fun t_0 w =>
  pv prog (oBi .len #[9] 3 #[false] #[prefix_p1]) w fun t_1 w =>
  pvv prog (binOp .geq 3 t_0 t_1) w fun t_2 w =>
  gate (some (t_2, true)) (fun K => K s_p0 w) w fun t_3 w =>
  gate (some (t_2, true)) (fun K => K prefix_p1 w) w fun t_4 w =>
  gate (some (t_2, true)) (fun K => pv prog (oBi .len #[9] 3 #[false] #[t_4]) w K) w fun t_5 w =>
  gate (some (t_2, true)) (fun K => pvv prog (Instr.sliceAt 9 t_3 none (some t_5) none) w K) w fun t_6 w =>
  gate (some (t_2, true)) (fun K => K prefix_p1 w) w fun t_7 w =>
  gate (some (t_2, true)) (fun K => pvv prog (oEq .eql 9 (.tmp 14) (.tmp 15) t_6 t_7) w K) w fun t_8 w =>
  pv prog (oPick t_2 t_8 (.bool false)) w fun t_9 w =>
  K t_9 w
theorem B73_eq (s_p0 prefix_p1 : Value) (w : World) (K : Value → World → Prop) : denFn prog Tryd.f73 T73 [s_p0, prefix_p1] w K = B73 s_p0 prefix_p1 w K := by kernel_rfl
theorem c73 {s_p0 prefix_p1 : Value} {w : World} {K : Value → World → Prop} (h : B73 s_p0 prefix_p1 w K) : Calls prog 73 #[s_p0, prefix_p1] w (Ret K) :=
  denFn_calls Tryd.func73 T73_ok (Eq.mpr (B73_eq s_p0 prefix_p1 w K) h)

-- 38 (*holdfast/holdfastref14.Chain).Rows
def T38 : Ann := (.seq .none (.seq (.seq .none (.seq (.seq .none .none) .none)) (.seq .none (.seq .none (.seq (.seq .none (.block (.loop 2417851638666308395991152 [4, 5] (.seq (.seq .none (.seq .none .none)) (.seq (.block (.seq .none (.draw [(0, .pure), (1, .pure), (5, .pure), (8, .pure), (10, .pure), (2, .load), (6, .load), (9, .load), (11, .load), (3, .eff), (4, .pure), (7, .eff), (12, .eff), (13, .pure), (14, .eff), (15, .eff), (16, .pure)]))) .none))))) (.seq .none .none))))))
theorem T38_ok : chkFn prog Tryd.f38 T38 = true := by kernel_rfl
def B38 (c_p0 : Value) (w : World) (K : Value → World → Prop) : Prop :=
  pvv prog (oEq .eql 25 (.tmp 7) (.const (.pointer none)) c_p0 (.pointer none)) w fun t_0 w =>
  cd t_0 (
    K (.slice none 0 0) w) <|
  pv prog (oNil c_p0) w fun t_1 w =>
  pvv prog (Instr.fieldAt 61 t_1 1) w fun t_2 w =>
  ldv prog (Instr.loadAt 3 t_2) w fun t_3 w =>
  Calls prog 49 #[t_3] w (Ret fun t_4 w =>
  False)
theorem B38_eq (c_p0 : Value) (w : World) (K : Value → World → Prop) : denFn prog Tryd.f38 T38 [c_p0] w K = B38 c_p0 w K := by kernel_rfl
theorem c38 {c_p0 : Value} {w : World} {K : Value → World → Prop} (h : B38 c_p0 w K) : Calls prog 38 #[c_p0] w (Ret K) :=
  denFn_calls Tryd.func38 T38_ok (Eq.mpr (B38_eq c_p0 w K) h)

-- 106 internal/stringslite.Clone
def T106 : Ann := (.seq .none (.seq (.seq .none (.seq (.seq .none .none) .none)) (.seq .none (.seq .none (.seq .none .none)))))
theorem T106_ok : chkFn prog Tryd.f106 T106 = true := by kernel_rfl
def B106 (s_p0 : Value) (w : World) (K : Value → World → Prop) : Prop :=
  pv prog (oBi .len #[9] 3 #[false] #[s_p0]) w fun t_0 w =>
  pvv prog (oEq .eql 3 (.tmp 5) (.const (.int .i64 0)) t_0 (.int .i64 0)) w fun t_1 w =>
  cd t_1 (
    K (.string ⟨#[]⟩) w) <|
  pv prog (oBi .len #[9] 3 #[false] #[s_p0]) w fun t_2 w =>
  efv prog (Instr.makeSlice 72 t_2 t_2) w fun t_3 w =>
  ef prog (oBi .copy #[72, 9] 3 #[false, false] #[t_3, s_p0]) w fun t_4 w =>
  pvv prog (Instr.indexAt 72 t_3 (.int .i64 0)) w fun t_5 w =>
  pv prog (oBi .len #[72] 3 #[false] #[t_3]) w fun t_6 w =>
  ef prog (oBi .unsafeString #[156, 3] 9 #[false, false] #[t_5, t_6]) w fun t_7 w =>
  K t_7 w
theorem B106_eq (s_p0 : Value) (w : World) (K : Value → World → Prop) : denFn prog Tryd.f106 T106 [s_p0] w K = B106 s_p0 w K := by kernel_rfl
theorem c106 {s_p0 : Value} {w : World} {K : Value → World → Prop} (h : B106 s_p0 w K) : Calls prog 106 #[s_p0] w (Ret K) :=
  denFn_calls Tryd.func106 T106_ok (Eq.mpr (B106_eq s_p0 w K) h)

-- 109 math/bits.TrailingZeros32
def T109 : Ann := (.seq .none (.seq (.seq .none (.seq (.seq .none .none) .none)) (.seq .none .none)))
theorem T109_ok : chkFn prog Tryd.f109 T109 = true := by kernel_rfl
def B109 (x_p0 : Value) (w : World) (K : Value → World → Prop) : Prop :=
  pvv prog (oEq .eql 101 (.tmp 3) (.const (.int .u32 0)) x_p0 (.int .u32 0)) w fun t_0 w =>
  cd t_0 (
    K (.int .i64 32) w) <|
  pvv prog (Op.unary .neg x_p0) w fun t_1 w =>
  pvv prog (binOp .and 101 x_p0 t_1) w fun t_2 w =>
  pvv prog (binOp .mul 101 t_2 (.int .u32 125613361)) w fun t_3 w =>
  pvv prog (binOp .shr 101 t_3 (.int .u64 27)) w fun t_4 w =>
  pvv prog (Instr.indexAt 35 (.pointer (some ⟨5, 0, none⟩)) t_4) w fun t_5 w =>
  ldv prog (Instr.loadAt 5 t_5) w fun t_6 w =>
  pvv prog (convert 5 3 t_6) w fun t_7 w =>
  K t_7 w
theorem B109_eq (x_p0 : Value) (w : World) (K : Value → World → Prop) : denFn prog Tryd.f109 T109 [x_p0] w K = B109 x_p0 w K := by kernel_rfl
theorem c109 {x_p0 : Value} {w : World} {K : Value → World → Prop} (h : B109 x_p0 w K) : Calls prog 109 #[x_p0] w (Ret K) :=
  denFn_calls Tryd.func109 T109_ok (Eq.mpr (B109_eq x_p0 w K) h)

-- 95 strconv.rangeError
def T95 : Ann := (.seq .none (.seq (.draw [(0, .pure), (1, .pure), (3, .load), (2, .eff), (4, .pure), (5, .eff), (6, .pure)]) .none))
theorem T95_ok : chkFn prog Tryd.f95 T95 = true := by kernel_rfl
def B95 (fn_p0 str_p1 : Value) (w : World) (K : Value → World → Prop) : Prop :=
  dr w fun w =>
  bindS (vN (Instr.loadAt 98 (.pointer (some ⟨2, 0, none⟩)))) fun m_1 => ldv prog (Instr.loadAt 98 (.pointer (some ⟨2, 0, none⟩))) w fun t_0 w =>
  Calls prog 106 #[str_p1] w (Ret fun t_2 w => stay prog none m_1 t_0 w <| 
  pvv prog (Instr.build 146 #[(0, fn_p0), (1, t_2), (2, t_0)]) w fun t_3 w =>
  efv prog (Instr.box 146 t_3) w fun t_4 w => stay prog none m_1 t_0 w <| 
  K t_4 w)
theorem B95_eq (fn_p0 str_p1 : Value) (w : World) (K : Value → World → Prop) : denFn prog Tryd.f95 T95 [fn_p0, str_p1] w K = B95 fn_p0 str_p1 w K := by kernel_rfl
theorem c95 {fn_p0 str_p1 : Value} {w : World} {K : Value → World → Prop} (h : B95 fn_p0 str_p1 w K) : Calls prog 95 #[fn_p0, str_p1] w (Ret K) :=
  denFn_calls Tryd.func95 T95_ok (Eq.mpr (B95_eq fn_p0 str_p1 w K) h)

-- 22 (*holdfast/holdfastref14.Chain).Fork
def T22 : Ann := (.seq .none (.seq (.seq .none (.seq (.seq .none .none) .none)) (.seq .none (.seq .none .none))))
theorem T22_ok : chkFn prog Tryd.f22 T22 = true := by kernel_rfl
def B22 (c_p0 : Value) (w : World) (K : Value → World → Prop) : Prop :=
  pvv prog (oEq .eql 25 (.tmp 4) (.const (.pointer none)) c_p0 (.pointer none)) w fun t_0 w =>
  cd t_0 (
    K (.pointer none) w) <|
  pv prog (oNil c_p0) w fun t_1 w =>
  ldv prog (Instr.loadAt 61 t_1) w fun t_2 w =>
  efv prog (Instr.alloc 61 true (.tuple #[])) w fun f_3 w =>
  efu prog (Instr.storeAt 61 f_3 t_2) w fun u_4 w =>
  K f_3 w
theorem B22_eq (c_p0 : Value) (w : World) (K : Value → World → Prop) : denFn prog Tryd.f22 T22 [c_p0] w K = B22 c_p0 w K := by kernel_rfl
theorem c22 {c_p0 : Value} {w : World} {K : Value → World → Prop} (h : B22 c_p0 w K) : Calls prog 22 #[c_p0] w (Ret K) :=
  denFn_calls Tryd.func22 T22_ok (Eq.mpr (B22_eq c_p0 w K) h)

-- 83 math/bits.RotateLeft32
def T83 : Ann := (.seq .none (.seq .none (.seq .none .none)))
theorem T83_ok : chkFn prog Tryd.f83 T83 = true := by kernel_rfl
def B83 (x_p0 k_p1 : Value) (w : World) (K : Value → World → Prop) : Prop :=
  pvv prog (convert 3 104 k_p1) w fun t_0 w =>
  pvv prog (binOp .and 104 t_0 (.int .u64 31)) w fun t_1 w =>
  pvv prog (binOp .shl 101 x_p0 t_1) w fun t_2 w =>
  pvv prog (binOp .sub 104 (.int .u64 32) t_1) w fun t_3 w =>
  pvv prog (binOp .shr 101 x_p0 t_3) w fun t_4 w =>
  pvv prog (binOp .or 101 t_2 t_4) w fun t_5 w =>
  K t_5 w
theorem B83_eq (x_p0 k_p1 : Value) (w : World) (K : Value → World → Prop) : denFn prog Tryd.f83 T83 [x_p0, k_p1] w K = B83 x_p0 k_p1 w K := by kernel_rfl
theorem c83 {x_p0 k_p1 : Value} {w : World} {K : Value → World → Prop} (h : B83 x_p0 k_p1 w K) : Calls prog 83 #[x_p0, k_p1] w (Ret K) :=
  denFn_calls Tryd.func83 T83_ok (Eq.mpr (B83_eq x_p0 k_p1 w K) h)

-- 30 slices.Clone[[]holdfast/api.Event,holdfast/api.Event]
def T30 : Ann := (.seq .none (.seq (.seq .none (.seq (.seq .none .none) .none)) (.seq .none .none)))
theorem T30_ok : chkFn prog Tryd.f30 T30 = true := by kernel_rfl
def B30 (s_p0 : Value) (w : World) (K : Value → World → Prop) : Prop :=
  pvv prog (oEq .eql 31 (.tmp 3) (.const (.slice none 0 0)) s_p0 (.slice none 0 0)) w fun t_0 w =>
  cd t_0 (
    K (.slice none 0 0) w) <|
  efv prog (Instr.buildSlice 31 0 #[]) w fun t_1 w =>
  ef prog (oBi .append #[31, 31] 31 #[false, false] #[t_1, s_p0]) w fun t_2 w =>
  K t_2 w
theorem B30_eq (s_p0 : Value) (w : World) (K : Value → World → Prop) : denFn prog Tryd.f30 T30 [s_p0] w K = B30 s_p0 w K := by kernel_rfl
theorem c30 {s_p0 : Value} {w : World} {K : Value → World → Prop} (h : B30 s_p0 w K) : Calls prog 30 #[s_p0] w (Ret K) :=
  denFn_calls Tryd.func30 T30_ok (Eq.mpr (B30_eq s_p0 w K) h)

-- 50 holdfast/holdfastref14.text
def T50 : Ann := (.seq .none (.seq .none .none))
theorem T50_ok : chkFn prog Tryd.f50 T50 = true := by kernel_rfl
def B50 (h_p0 : Value) (w : World) (K : Value → World → Prop) : Prop :=
  efv prog (Instr.box 36 h_p0) w fun h_0 w =>
  ldv prog (Instr.loadAt 36 h_0) w fun t_1 w =>
  Calls prog 59 #[t_1] w (Ret fun t_2 w =>
  efv prog (convert 72 9 t_2) w fun t_3 w =>
  K t_3 w)
theorem B50_eq (h_p0 : Value) (w : World) (K : Value → World → Prop) : denFn prog Tryd.f50 T50 [h_p0] w K = B50 h_p0 w K := by kernel_rfl
theorem c50 {h_p0 : Value} {w : World} {K : Value → World → Prop} (h : B50 h_p0 w K) : Calls prog 50 #[h_p0] w (Ret K) :=
  denFn_calls Tryd.func50 T50_ok (Eq.mpr (B50_eq h_p0 w K) h)

-- 90 strings.ContainsRune
def T90 : Ann := (.seq .none (.seq .none .none))
theorem T90_ok : chkFn prog Tryd.f90 T90 = true := by kernel_rfl
def B90 (s_p0 r_p1 : Value) (w : World) (K : Value → World → Prop) : Prop :=
  Calls prog 104 #[s_p0, r_p1] w (Ret fun t_0 w =>
  pvv prog (binOp .geq 3 t_0 (.int .i64 0)) w fun t_1 w =>
  K t_1 w)
theorem B90_eq (s_p0 r_p1 : Value) (w : World) (K : Value → World → Prop) : denFn prog Tryd.f90 T90 [s_p0, r_p1] w K = B90 s_p0 r_p1 w K := by kernel_rfl
theorem c90 {s_p0 r_p1 : Value} {w : World} {K : Value → World → Prop} (h : B90 s_p0 r_p1 w K) : Calls prog 90 #[s_p0, r_p1] w (Ret K) :=
  denFn_calls Tryd.func90 T90_ok (Eq.mpr (B90_eq s_p0 r_p1 w K) h)

-- 113 internal/bytealg.Cutover
def T113 : Ann := (.seq .none (.seq .none .none))
theorem T113_ok : chkFn prog Tryd.f113 T113 = true := by kernel_rfl
def B113 (n_p0 : Value) (w : World) (K : Value → World → Prop) : Prop :=
  pvv prog (binOp .add 3 n_p0 (.int .i64 16)) w fun t_0 w =>
  pvv prog (binOp .quo 3 t_0 (.int .i64 8)) w fun t_1 w =>
  K t_1 w
theorem B113_eq (n_p0 : Value) (w : World) (K : Value → World → Prop) : denFn prog Tryd.f113 T113 [n_p0] w K = B113 n_p0 w K := by kernel_rfl
theorem c113 {n_p0 : Value} {w : World} {K : Value → World → Prop} (h : B113 n_p0 w K) : Calls prog 113 #[n_p0] w (Ret K) :=
  denFn_calls Tryd.func113 T113_ok (Eq.mpr (B113_eq n_p0 w K) h)

-- 100 internal/strconv.bool2[int]
def T100 : Ann := (.seq .none (.seq (.seq .none (.seq (.seq .none .none) .none)) (.seq .none .none)))
theorem T100_ok : chkFn prog Tryd.f100 T100 = true := by kernel_rfl
def B100 (b_p0 : Value) (w : World) (K : Value → World → Prop) : Prop :=
  cd b_p0 (
    K (.int .i64 1) w) <|
  K (.int .i64 0) w
theorem B100_eq (b_p0 : Value) (w : World) (K : Value → World → Prop) : denFn prog Tryd.f100 T100 [b_p0] w K = B100 b_p0 w K := by kernel_rfl
theorem c100 {b_p0 : Value} {w : World} {K : Value → World → Prop} (h : B100 b_p0 w K) : Calls prog 100 #[b_p0] w (Ret K) :=
  denFn_calls Tryd.func100 T100_ok (Eq.mpr (B100_eq b_p0 w K) h)

-- 111 strings.IndexByte
def T111 : Ann := (.seq .none (.seq .none .none))
theorem T111_ok : chkFn prog Tryd.f111 T111 = true := by kernel_rfl
def B111 (s_p0 c_p1 : Value) (w : World) (K : Value → World → Prop) : Prop :=
  Calls prog 116 #[s_p0, c_p1] w (Ret fun t_0 w =>
  K t_0 w)
theorem B111_eq (s_p0 c_p1 : Value) (w : World) (K : Value → World → Prop) : denFn prog Tryd.f111 T111 [s_p0, c_p1] w K = B111 s_p0 c_p1 w K := by kernel_rfl
theorem c111 {s_p0 c_p1 : Value} {w : World} {K : Value → World → Prop} (h : B111 s_p0 c_p1 w K) : Calls prog 111 #[s_p0, c_p1] w (Ret K) :=
  denFn_calls Tryd.func111 T111_ok (Eq.mpr (B111_eq s_p0 c_p1 w K) h)

-- 9 holdfast/audit.New
def T9 : Ann := (.seq .none (.seq .none .none))
theorem T9_ok : chkFn prog Tryd.f9 T9 = true := by kernel_rfl
def B9 (w : World) (K : Value → World → Prop) : Prop :=
  pvv prog (Instr.build 59 #[]) w fun t_0 w =>
  efv prog (Instr.box 59 t_0) w fun t_1 w =>
  K t_1 w
theorem B9_eq (w : World) (K : Value → World → Prop) : denFn prog Tryd.f9 T9 [] w K = B9  w K := by kernel_rfl
theorem c9 {w : World} {K : Value → World → Prop} (h : B9  w K) : Calls prog 9 #[] w (Ret K) :=
  denFn_calls Tryd.func9 T9_ok (Eq.mpr (B9_eq  w K) h)


end Go.Proofs.YtjeiojibnmfibaaDoor
