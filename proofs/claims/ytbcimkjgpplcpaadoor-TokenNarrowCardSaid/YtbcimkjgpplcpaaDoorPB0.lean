import Derived.Test.YtbcimkjgpplcpaaDoorPI
set_option linter.all false
set_option maxRecDepth 100000
namespace Go.Proofs.YtbcimkjgpplcpaaDoor
open Go Hold
-- 13 holdfast/holdfastlaw12.do
def T13 : Ann := (.seq .none (.seq (.seq .none (.block (.seq .none (.seq (.seq .none (.seq .none (.seq .none .none))) (.seq .none (.seq (.seq .none (.seq .none (.seq .none .none))) (.seq .none (.seq (.seq .none (.seq .none (.seq .none .none))) (.seq .none (.seq (.seq .none (.seq .none (.seq .none .none))) (.seq .none (.seq (.seq (.draw [.op 0 .pure, .op 1 .pure, .op 4 .pure, .op 5 .pure, .op 2 .load, .op 6 .load, .op 3 .eff, .op 7 .eff, .op 8 .pure, .op 9 .pure]) .none) (.seq .none (.seq (.seq (.draw [.op 0 .pure, .op 1 .pure, .op 4 .pure, .op 5 .pure, .op 2 .load, .op 6 .load, .op 3 .eff, .op 7 .eff, .op 8 .eff, .op 9 .pure]) .none) (.seq .none (.seq (.seq (.draw [.op 0 .pure, .op 1 .pure, .op 3 .pure, .op 6 .pure, .op 7 .pure, .op 9 .pure, .op 2 .load, .op 4 .load, .op 8 .load, .op 10 .load, .op 5 .eff, .op 11 .eff, .op 12 .eff, .op 13 .pure]) .none) .none)))))))))))))))) (.seq .none (.seq .none (.seq .none .none)))))
theorem T13_ok : chkFn prog Tryd.f13 T13 = true := by kernel_rfl
def B13 (s_p0 r_p1 x_p2 : Value) (w : World) (K : Value → World → Prop) : Prop :=
  efv prog (Instr.box 43 x_p2) w fun x_0 w =>
  pvv prog (Instr.fieldAt 43 x_0 0) w fun t_1 w =>
  ldv prog (Instr.loadAt 3 t_1) w fun t_2 w =>
  pvv prog (oEq .eql 3 (.tmp 32) (.const (.int .i64 0)) t_2 (.int .i64 0)) w fun t_3 w =>
  cd t_3 (
    pvv prog (Instr.fieldAt 43 x_0 1) w fun t_4 w =>
    ldv prog (Instr.loadAt 3 t_4) w fun t_5 w =>
    pvv prog (Instr.fieldAt 43 x_0 4) w fun t_6 w =>
    ldv prog (Instr.loadAt 9 t_6) w fun t_7 w =>
    pvv prog (Instr.fieldAt 43 x_0 5) w fun t_8 w =>
    ldv prog (Instr.loadAt 25 t_8) w fun t_9 w =>
    pvv prog (Instr.fieldAt 43 x_0 3) w fun t_10 w =>
    ldv prog (Instr.loadAt 3 t_10) w fun t_11 w =>
    Calls prog 9 #[s_p0, t_5, t_7, t_9, t_11] w (Ret fun t_12 w =>
    pvv prog (Instr.extract t_12 0) w fun t_13 w =>
    pvv prog (Instr.extract t_12 1) w fun t_14 w =>
    pvv prog (Instr.extract t_12 2) w fun t_15 w =>
    efv prog (Instr.alloc 27 true (.tuple #[])) w fun f_16 w =>
    efv prog (Instr.alloc 29 true (.tuple #[])) w fun t_17 w =>
    efu prog (Instr.storeAt 27 f_16 t_13) w fun u_18 w =>
    efu prog (Instr.storeAt 29 t_17 t_14) w fun u_19 w =>
    pvv prog (Instr.fieldAt 43 x_0 1) w fun t_20 w =>
    ldv prog (Instr.loadAt 3 t_20) w fun t_21 w =>
    pvv prog (Instr.fieldAt 43 x_0 4) w fun t_22 w =>
    ldv prog (Instr.loadAt 9 t_22) w fun t_23 w =>
    pvv prog (Instr.fieldAt 43 x_0 5) w fun t_24 w =>
    ldv prog (Instr.loadAt 25 t_24) w fun t_25 w =>
    pvv prog (Instr.fieldAt 43 x_0 3) w fun t_26 w =>
    ldv prog (Instr.loadAt 3 t_26) w fun t_27 w =>
    Calls prog 33 #[r_p1, t_21, t_23, t_25, t_27] w (Ret fun t_28 w =>
    pvv prog (Instr.extract t_28 0) w fun t_29 w =>
    pvv prog (Instr.extract t_28 1) w fun t_30 w =>
    pvv prog (Instr.extract t_28 2) w fun t_31 w =>
    efv prog (Instr.alloc 27 true (.tuple #[])) w fun g_32 w =>
    efv prog (Instr.alloc 29 true (.tuple #[])) w fun u_33 w =>
    efu prog (Instr.storeAt 27 g_32 t_29) w fun u_34 w =>
    efu prog (Instr.storeAt 29 u_33 t_30) w fun u_35 w =>
    ldv prog (Instr.loadAt 27 f_16) w fun t_36 w =>
    ldv prog (Instr.loadAt 27 g_32) w fun t_37 w =>
    pvv prog (oEq .eql 27 (.tmp 63) (.tmp 64) t_36 t_37) w fun t_38 w =>
    gate (some (t_38, true)) (fun K => ldv prog (Instr.loadAt 29 t_17) w K) w fun t_39 w =>
    gate (some (t_38, true)) (fun K => ldv prog (Instr.loadAt 29 u_33) w K) w fun t_40 w =>
    gate (some (t_38, true)) (fun K => pvv prog (oEq .eql 29 (.tmp 67) (.tmp 68) t_39 t_40) w K) w fun t_41 w =>
    pv prog (oPick t_38 t_41 (.bool false)) w fun t_42 w =>
    gate (some (t_42, true)) (fun K => K t_15 w) w fun t_43 w =>
    gate (some (t_42, true)) (fun K => K t_31 w) w fun t_44 w =>
    gate (some (t_42, true)) (fun K => pvv prog (oEq .eql 30 (.tmp 72) (.tmp 73) t_43 t_44) w K) w fun t_45 w =>
    pv prog (oPick t_42 t_45 (.bool false)) w fun t_46 w =>
    K t_46 w))) <|
  pvv prog (oEq .eql 3 (.tmp 32) (.const (.int .i64 1)) t_2 (.int .i64 1)) w fun t_47 w =>
  cd t_47 (
    pvv prog (Instr.fieldAt 43 x_0 1) w fun t_48 w =>
    ldv prog (Instr.loadAt 3 t_48) w fun t_49 w =>
    pvv prog (Instr.fieldAt 43 x_0 2) w fun t_50 w =>
    ldv prog (Instr.loadAt 3 t_50) w fun t_51 w =>
    pvv prog (Instr.fieldAt 43 x_0 3) w fun t_52 w =>
    ldv prog (Instr.loadAt 3 t_52) w fun t_53 w =>
    Calls prog 23 #[s_p0, t_49, t_51, t_53] w (Ret fun t_54 w =>
    pvv prog (Instr.extract t_54 0) w fun t_55 w =>
    pvv prog (Instr.extract t_54 1) w fun t_56 w =>
    pvv prog (Instr.extract t_54 2) w fun t_57 w =>
    efv prog (Instr.alloc 27 true (.tuple #[])) w fun f_58 w =>
    efv prog (Instr.alloc 29 true (.tuple #[])) w fun t_59 w =>
    efu prog (Instr.storeAt 27 f_58 t_55) w fun u_60 w =>
    efu prog (Instr.storeAt 29 t_59 t_56) w fun u_61 w =>
    pvv prog (Instr.fieldAt 43 x_0 1) w fun t_62 w =>
    ldv prog (Instr.loadAt 3 t_62) w fun t_63 w =>
    pvv prog (Instr.fieldAt 43 x_0 2) w fun t_64 w =>
    ldv prog (Instr.loadAt 3 t_64) w fun t_65 w =>
    pvv prog (Instr.fieldAt 43 x_0 3) w fun t_66 w =>
    ldv prog (Instr.loadAt 3 t_66) w fun t_67 w =>
    Calls prog 34 #[r_p1, t_63, t_65, t_67] w (Ret fun t_68 w =>
    pvv prog (Instr.extract t_68 0) w fun t_69 w =>
    pvv prog (Instr.extract t_68 1) w fun t_70 w =>
    pvv prog (Instr.extract t_68 2) w fun t_71 w =>
    efv prog (Instr.alloc 27 true (.tuple #[])) w fun g_72 w =>
    efv prog (Instr.alloc 29 true (.tuple #[])) w fun u_73 w =>
    efu prog (Instr.storeAt 27 g_72 t_69) w fun u_74 w =>
    efu prog (Instr.storeAt 29 u_73 t_70) w fun u_75 w =>
    ldv prog (Instr.loadAt 27 f_58) w fun t_76 w =>
    ldv prog (Instr.loadAt 27 g_72) w fun t_77 w =>
    pvv prog (oEq .eql 27 (.tmp 102) (.tmp 103) t_76 t_77) w fun t_78 w =>
    gate (some (t_78, true)) (fun K => ldv prog (Instr.loadAt 29 t_59) w K) w fun t_79 w =>
    gate (some (t_78, true)) (fun K => ldv prog (Instr.loadAt 29 u_73) w K) w fun t_80 w =>
    gate (some (t_78, true)) (fun K => pvv prog (oEq .eql 29 (.tmp 106) (.tmp 107) t_79 t_80) w K) w fun t_81 w =>
    pv prog (oPick t_78 t_81 (.bool false)) w fun t_82 w =>
    gate (some (t_82, true)) (fun K => K t_57 w) w fun t_83 w =>
    gate (some (t_82, true)) (fun K => K t_71 w) w fun t_84 w =>
    gate (some (t_82, true)) (fun K => pvv prog (oEq .eql 30 (.tmp 111) (.tmp 112) t_83 t_84) w K) w fun t_85 w =>
    pv prog (oPick t_82 t_85 (.bool false)) w fun t_86 w =>
    K t_86 w))) <|
  pvv prog (oEq .eql 3 (.tmp 32) (.const (.int .i64 2)) t_2 (.int .i64 2)) w fun t_87 w =>
  cd t_87 (
    pvv prog (Instr.fieldAt 43 x_0 1) w fun t_88 w =>
    ldv prog (Instr.loadAt 3 t_88) w fun t_89 w =>
    pvv prog (Instr.fieldAt 43 x_0 3) w fun t_90 w =>
    ldv prog (Instr.loadAt 3 t_90) w fun t_91 w =>
    Calls prog 14 #[s_p0, t_89, t_91] w (Ret fun t_92 w =>
    pvv prog (Instr.extract t_92 0) w fun t_93 w =>
    pvv prog (Instr.extract t_92 1) w fun t_94 w =>
    efv prog (Instr.alloc 29 true (.tuple #[])) w fun t_95 w =>
    efu prog (Instr.storeAt 29 t_95 t_93) w fun u_96 w =>
    pvv prog (Instr.fieldAt 43 x_0 1) w fun t_97 w =>
    ldv prog (Instr.loadAt 3 t_97) w fun t_98 w =>
    pvv prog (Instr.fieldAt 43 x_0 3) w fun t_99 w =>
    ldv prog (Instr.loadAt 3 t_99) w fun t_100 w =>
    Calls prog 35 #[r_p1, t_98, t_100] w (Ret fun t_101 w =>
    pvv prog (Instr.extract t_101 0) w fun t_102 w =>
    pvv prog (Instr.extract t_101 1) w fun t_103 w =>
    efv prog (Instr.alloc 29 true (.tuple #[])) w fun u_104 w =>
    efu prog (Instr.storeAt 29 u_104 t_102) w fun u_105 w =>
    ldv prog (Instr.loadAt 29 t_95) w fun t_106 w =>
    ldv prog (Instr.loadAt 29 u_104) w fun t_107 w =>
    pvv prog (oEq .eql 29 (.tmp 135) (.tmp 136) t_106 t_107) w fun t_108 w =>
    gate (some (t_108, true)) (fun K => K t_94 w) w fun t_109 w =>
    gate (some (t_108, true)) (fun K => K t_103 w) w fun t_110 w =>
    gate (some (t_108, true)) (fun K => pvv prog (oEq .eql 30 (.tmp 139) (.tmp 140) t_109 t_110) w K) w fun t_111 w =>
    pv prog (oPick t_108 t_111 (.bool false)) w fun t_112 w =>
    K t_112 w))) <|
  pvv prog (oEq .eql 3 (.tmp 32) (.const (.int .i64 3)) t_2 (.int .i64 3)) w fun t_113 w =>
  cd t_113 (
    pvv prog (Instr.fieldAt 43 x_0 1) w fun t_114 w =>
    ldv prog (Instr.loadAt 3 t_114) w fun t_115 w =>
    pvv prog (Instr.fieldAt 43 x_0 5) w fun t_116 w =>
    ldv prog (Instr.loadAt 25 t_116) w fun t_117 w =>
    pvv prog (Instr.fieldAt 43 x_0 3) w fun t_118 w =>
    ldv prog (Instr.loadAt 3 t_118) w fun t_119 w =>
    Calls prog 36 #[s_p0, t_115, t_117, t_119] w (Ret fun t_120 w =>
    pvv prog (Instr.extract t_120 0) w fun t_121 w =>
    pvv prog (Instr.extract t_120 1) w fun t_122 w =>
    efv prog (Instr.alloc 29 true (.tuple #[])) w fun t_123 w =>
    efu prog (Instr.storeAt 29 t_123 t_121) w fun u_124 w =>
    pvv prog (Instr.fieldAt 43 x_0 1) w fun t_125 w =>
    ldv prog (Instr.loadAt 3 t_125) w fun t_126 w =>
    pvv prog (Instr.fieldAt 43 x_0 5) w fun t_127 w =>
    ldv prog (Instr.loadAt 25 t_127) w fun t_128 w =>
    pvv prog (Instr.fieldAt 43 x_0 3) w fun t_129 w =>
    ldv prog (Instr.loadAt 3 t_129) w fun t_130 w =>
    Calls prog 37 #[r_p1, t_126, t_128, t_130] w (Ret fun t_131 w =>
    pvv prog (Instr.extract t_131 0) w fun t_132 w =>
    pvv prog (Instr.extract t_131 1) w fun t_133 w =>
    efv prog (Instr.alloc 29 true (.tuple #[])) w fun u_134 w =>
    efu prog (Instr.storeAt 29 u_134 t_132) w fun u_135 w =>
    ldv prog (Instr.loadAt 29 t_123) w fun t_136 w =>
    ldv prog (Instr.loadAt 29 u_134) w fun t_137 w =>
    pvv prog (oEq .eql 29 (.tmp 167) (.tmp 168) t_136 t_137) w fun t_138 w =>
    gate (some (t_138, true)) (fun K => K t_122 w) w fun t_139 w =>
    gate (some (t_138, true)) (fun K => K t_133 w) w fun t_140 w =>
    gate (some (t_138, true)) (fun K => pvv prog (oEq .eql 30 (.tmp 171) (.tmp 172) t_139 t_140) w K) w fun t_141 w =>
    pv prog (oPick t_138 t_141 (.bool false)) w fun t_142 w =>
    K t_142 w))) <|
  pvv prog (oEq .eql 3 (.tmp 32) (.const (.int .i64 4)) t_2 (.int .i64 4)) w fun t_143 w =>
  cd t_143 (
    dr w fun w =>
    pvv prog (Instr.fieldAt 43 x_0 1) w fun t_144 w =>
    pvv prog (Instr.fieldAt 43 x_0 1) w fun t_145 w =>
    bindS (vN (Instr.loadAt 3 t_144)) fun m_147 => ldv prog (Instr.loadAt 3 t_144) w fun t_146 w =>
    bindS (vN (Instr.loadAt 3 t_145)) fun m_149 => ldv prog (Instr.loadAt 3 t_145) w fun t_148 w =>
    Calls prog 11 #[s_p0, t_146] w (Ret fun t_150 w => stay prog none m_149 t_148 w <| 
    Calls prog 38 #[r_p1, t_148] w (Ret fun t_151 w => stay prog none m_147 t_146 w <| 
    pvv prog (oEq .eql 30 (.tmp 180) (.tmp 184) t_150 t_151) w fun t_152 w =>
    K t_152 w))) <|
  pvv prog (oEq .eql 3 (.tmp 32) (.const (.int .i64 5)) t_2 (.int .i64 5)) w fun t_155 w =>
  cd t_155 (
    dr w fun w =>
    pvv prog (Instr.fieldAt 43 x_0 6) w fun t_156 w =>
    pvv prog (Instr.fieldAt 43 x_0 6) w fun t_157 w =>
    bindS (vN (Instr.loadAt 41 t_156)) fun m_159 => ldv prog (Instr.loadAt 41 t_156) w fun t_158 w =>
    bindS (vN (Instr.loadAt 41 t_157)) fun m_161 => ldv prog (Instr.loadAt 41 t_157) w fun t_160 w =>
    Calls prog 18 #[s_p0, t_158] w (Ret fun t_162 w => stay prog none m_161 t_160 w <| 
    Calls prog 40 #[r_p1, t_160] w (Ret fun t_163 w => stay prog none m_159 t_158 w <| 
    Calls prog 39 #[t_162, t_163] w (Ret fun t_164 w => stay prog none m_161 t_160 w <| stay prog none m_159 t_158 w <| 
    K t_164 w)))) <|
  pvv prog (oEq .eql 3 (.tmp 32) (.const (.int .i64 6)) t_2 (.int .i64 6)) w fun t_168 w =>
  cd t_168 (
    dr w fun w =>
    pvv prog (Instr.fieldAt 43 x_0 4) w fun t_169 w =>
    pvv prog (Instr.fieldAt 43 x_0 6) w fun t_170 w =>
    pvv prog (Instr.fieldAt 43 x_0 4) w fun t_171 w =>
    pvv prog (Instr.fieldAt 43 x_0 6) w fun t_172 w =>
    bindS (vN (Instr.loadAt 9 t_169)) fun m_174 => ldv prog (Instr.loadAt 9 t_169) w fun t_173 w =>
    bindS (vN (Instr.loadAt 41 t_170)) fun m_176 => ldv prog (Instr.loadAt 41 t_170) w fun t_175 w =>
    bindS (vN (Instr.loadAt 9 t_171)) fun m_178 => ldv prog (Instr.loadAt 9 t_171) w fun t_177 w =>
    bindS (vN (Instr.loadAt 41 t_172)) fun m_180 => ldv prog (Instr.loadAt 41 t_172) w fun t_179 w =>
    Calls prog 41 #[s_p0, t_173, t_175] w (Ret fun t_181 w => stay prog none m_180 t_179 w <| stay prog none m_178 t_177 w <| 
    Calls prog 42 #[r_p1, t_177, t_179] w (Ret fun t_182 w => stay prog none m_176 t_175 w <| stay prog none m_174 t_173 w <| 
    Calls prog 39 #[t_181, t_182] w (Ret fun t_183 w => stay prog none m_180 t_179 w <| stay prog none m_178 t_177 w <| stay prog none m_176 t_175 w <| stay prog none m_174 t_173 w <| 
    K t_183 w)))) <|
  pvv prog (Instr.fieldAt 43 x_0 3) w fun t_187 w =>
  ldv prog (Instr.loadAt 3 t_187) w fun t_188 w =>
  Calls prog 43 #[s_p0, t_188] w (Ret fun t_189 w =>
  pvv prog (Instr.extract t_189 0) w fun t_190 w =>
  pvv prog (Instr.extract t_189 1) w fun t_191 w =>
  pvv prog (Instr.fieldAt 43 x_0 3) w fun t_192 w =>
  ldv prog (Instr.loadAt 3 t_192) w fun t_193 w =>
  Calls prog 44 #[r_p1, t_193] w (Ret fun t_194 w =>
  pvv prog (Instr.extract t_194 0) w fun t_195 w =>
  pvv prog (Instr.extract t_194 1) w fun t_196 w =>
  pvv prog (oEq .eql 3 (.tmp 226) (.tmp 227) t_190 t_195) w fun t_197 w =>
  gate (some (t_197, true)) (fun K => K t_191 w) w fun t_198 w =>
  gate (some (t_197, true)) (fun K => K t_196 w) w fun t_199 w =>
  gate (some (t_197, true)) (fun K => pvv prog (oEq .eql 30 (.tmp 230) (.tmp 231) t_198 t_199) w K) w fun t_200 w =>
  pv prog (oPick t_197 t_200 (.bool false)) w fun t_201 w =>
  K t_201 w))
theorem B13_eq (s_p0 r_p1 x_p2 : Value) (w : World) (K : Value → World → Prop) : denFn prog Tryd.f13 T13 [s_p0, r_p1, x_p2] w K = B13 s_p0 r_p1 x_p2 w K := by kernel_rfl
theorem c13 {s_p0 r_p1 x_p2 : Value} {w : World} {K : Value → World → Prop} (h : B13 s_p0 r_p1 x_p2 w K) : Calls prog 13 #[s_p0, r_p1, x_p2] w (Ret K) :=
  denFn_calls Tryd.func13 T13_ok (Eq.mpr (B13_eq s_p0 r_p1 x_p2 w K) h)

-- 23 (*holdfast/token.Store).Refresh
def T23 : Ann := (.seq .none (.seq .none (.seq .none (.meet 134154240 [11] (.seq .none (.seq .none .none)) (.meet 4611686018293172224 [11] (.block (.seq .none (.seq .none (.seq .none (.seq .none (.seq .none (.seq (.seq .none (.seq .none .none)) (.seq .none (.seq .none .none))))))))) (.seq (.seq .none (.seq (.seq .none .none) .none)) (.seq .none (.seq (.draw [.op 0 .pure, .op 1 .pure, .op 2 .pure, .op 3 .pure, .op 5 .pure, .op 4 .load, .op 6 .load, .op 7 .eff]) (.seq .none (.seq (.draw [.op 1 .pure, .op 2 .pure, .op 3 .pure, .op 5 .pure, .op 6 .pure, .op 0 .load, .op 4 .load, .op 7 .eff, .op 8 .eff, .op 9 .eff, .op 10 .pure]) .none))))))))))
theorem T23_ok : chkFn prog Tryd.f23 T23 = true := by kernel_rfl
def B23 (s_p0 family_p1 number_p2 now_p3 : Value) (w : World) (K : Value → World → Prop) : Prop :=
  efv prog (Instr.alloc 27 true (.tuple #[])) w fun t_0 w =>
  efv prog (Instr.alloc 29 true (.tuple #[])) w fun t_1 w =>
  Calls prog 24 #[s_p0, now_p3] w (Ret fun t_2 w =>
  efv prog (Instr.alloc 27 true (.tuple #[])) w fun f_3 w =>
  jn (fun σ w => pop σ fun e_4 σ => fin σ <|
    jn (fun σ w => pop σ fun e_5 σ => fin σ <|
      pvv prog (oEq .neq 30 (.tmp 62) (.const (.int .i64 0)) e_5 (.int .i64 0)) w fun t_6 w =>
      cd t_6 (
        pvv prog (Instr.build 27 #[]) w fun t_7 w =>
        pvv prog (Instr.build 29 #[]) w fun t_8 w =>
        efu prog (Instr.storeAt 27 t_0 t_7) w fun u_9 w =>
        efu prog (Instr.storeAt 29 t_1 t_8) w fun u_10 w =>
        ∃ r_11, (do loadVar 27 (← asAddr t_0)).run prog w = .ok r_11 w ∧ ∃ r_12, (do loadVar 29 (← asAddr t_1)).run prog w = .ok r_12 w ∧ K (.tuple #[r_11, r_12, e_5]) w) <|
      pvv prog (Instr.fieldAt 27 f_3 4) w fun t_13 w =>
      ldv prog (Instr.loadAt 3 t_13) w fun t_14 w =>
      pvv prog (binOp .add 3 t_14 (.int .i64 1)) w fun t_15 w =>
      pvv prog (Instr.fieldAt 27 f_3 4) w fun t_16 w =>
      efu prog (Instr.storeAt 3 t_16 t_15) w fun u_17 w =>
      dr w fun w =>
      pv prog (oNil s_p0) w fun t_18 w =>
      pvv prog (Instr.fieldAt 74 t_18 0) w fun t_19 w =>
      pvv prog (Instr.fieldAt 69 t_19 1) w fun t_20 w =>
      bindS (vN (Instr.loadAt 67 t_20)) fun m_22 => ldv prog (Instr.loadAt 67 t_20) w fun t_21 w =>
      bindS (vN (Instr.loadAt 27 f_3)) fun m_24 => ldv prog (Instr.loadAt 27 f_3) w fun t_23 w =>
      efu prog (Instr.mapUpdate 67 t_21 family_p1 t_23) w fun u_25 w =>
      pv prog (oNil s_p0) w fun t_26 w =>
      pvv prog (Instr.fieldAt 74 t_26 2) w fun t_27 w =>
      efu prog (Instr.storeAt 3 t_27 now_p3) w fun u_28 w =>
      dr w fun w =>
      pvv prog (Instr.fieldAt 27 f_3 3) w fun t_29 w =>
      pvv prog (binOp .add 3 now_p3 (.int .i64 50)) w fun t_30 w =>
      bindS (vN (Instr.loadAt 27 f_3)) fun m_32 => ldv prog (Instr.loadAt 27 f_3) w fun t_31 w =>
      bindS (vN (Instr.loadAt 25 t_29)) fun m_34 => ldv prog (Instr.loadAt 25 t_29) w fun t_33 w =>
      Calls prog 28 #[s_p0, family_p1, t_33, t_30] w (Ret fun t_35 w => stay prog none m_32 t_31 w <| 
      efu prog (Instr.storeAt 27 t_0 t_31) w fun u_36 w => stay prog none m_34 t_33 w <| 
      efu prog (Instr.storeAt 29 t_1 t_35) w fun u_37 w =>
      ∃ r_38, (do loadVar 27 (← asAddr t_0)).run prog w = .ok r_38 w ∧ ∃ r_39, (do loadVar 29 (← asAddr t_1)).run prog w = .ok r_39 w ∧ K (.tuple #[r_38, r_39, (.int .i64 0)]) w)) fun k_44 =>
    pvv prog (oEq .neq 30 (.tmp 28) (.const (.int .i64 0)) e_4 (.int .i64 0)) w fun t_45 w =>
    cd t_45 (
      k_44 [e_4] w) <|
    pvv prog (binOp .lss 3 number_p2 (.int .i64 1)) w fun t_46 w =>
    gate (some (t_46, false)) (fun K => K number_p2 w) w fun t_47 w =>
    gate (some (t_46, false)) (fun K => pvv prog (Instr.fieldAt 27 f_3 4) w K) w fun t_48 w =>
    gate (some (t_46, false)) (fun K => ldv prog (Instr.loadAt 3 t_48) w K) w fun t_49 w =>
    gate (some (t_46, false)) (fun K => pvv prog (binOp .gtr 3 t_47 t_49) w K) w fun t_50 w =>
    pv prog (oPick t_46 (.bool true) t_50) w fun t_51 w =>
    cd t_51 (
      k_44 [(.int .i64 10)] w) <|
    pvv prog (Instr.fieldAt 27 f_3 4) w fun t_52 w =>
    ldv prog (Instr.loadAt 3 t_52) w fun t_53 w =>
    pvv prog (binOp .lss 3 number_p2 t_53) w fun t_54 w =>
    cd t_54 (
      Calls prog 32 #[s_p0, family_p1] w (Ret fun t_55 w =>
      pv prog (oNil s_p0) w fun t_56 w =>
      pvv prog (Instr.fieldAt 74 t_56 2) w fun t_57 w =>
      efu prog (Instr.storeAt 3 t_57 now_p3) w fun u_58 w =>
      k_44 [(.int .i64 13)] w)) <|
    pv prog (oNil s_p0) w fun t_59 w =>
    pvv prog (Instr.fieldAt 74 t_59 1) w fun t_60 w =>
    ldv prog (Instr.loadAt 72 t_60) w fun t_61 w =>
    Calls prog 27 #[t_61] w (Ret fun t_62 w =>
    gate (some (t_62, false)) (fun K => pvv prog (Instr.fieldAt 27 f_3 4) w K) w fun t_63 w =>
    gate (some (t_62, false)) (fun K => ldv prog (Instr.loadAt 3 t_63) w K) w fun t_64 w =>
    gate (some (t_62, false)) (fun K => pvv prog (binOp .geq 3 t_64 (.int .i64 1099511627776)) w K) w fun t_65 w =>
    pv prog (oPick t_62 (.bool true) t_65) w fun t_66 w =>
    cd t_66 (
      k_44 [(.int .i64 7)] w) <|
    k_44 [e_4] w)) fun k_67 =>
  pvv prog (oEq .eql 30 (.tmp 16) (.const (.int .i64 0)) t_2 (.int .i64 0)) w fun t_68 w =>
  cd t_68 (
    pv prog (oNil s_p0) w fun t_69 w =>
    pvv prog (Instr.fieldAt 74 t_69 0) w fun t_70 w =>
    ldv prog (Instr.loadAt 69 t_70) w fun t_71 w =>
    Calls prog 31 #[t_71, family_p1] w (Ret fun t_72 w =>
    pvv prog (Instr.extract t_72 0) w fun t_73 w =>
    pvv prog (Instr.extract t_72 1) w fun t_74 w =>
    efu prog (Instr.storeAt 27 f_3 t_73) w fun u_75 w =>
    k_67 [t_74] w)) <|
  k_67 [t_2] w)
theorem B23_eq (s_p0 family_p1 number_p2 now_p3 : Value) (w : World) (K : Value → World → Prop) : denFn prog Tryd.f23 T23 [s_p0, family_p1, number_p2, now_p3] w K = B23 s_p0 family_p1 number_p2 now_p3 w K := by kernel_rfl
theorem c23 {s_p0 family_p1 number_p2 now_p3 : Value} {w : World} {K : Value → World → Prop} (h : B23 s_p0 family_p1 number_p2 now_p3 w K) : Calls prog 23 #[s_p0, family_p1, number_p2, now_p3] w (Ret K) :=
  denFn_calls Tryd.func23 T23_ok (Eq.mpr (B23_eq s_p0 family_p1 number_p2 now_p3 w K) h)

-- 3 holdfast/holdfastlaw12.TokenRooms
def T3 : Ann := (.seq .none (.seq .none (.seq (.seq .none (.seq (.seq .none .none) .none)) (.seq (.seq .none (.block (.loop 140737486259152 [6] (.seq (.seq .none (.seq .none .none)) (.seq (.block (.seq .none (.seq .none (.seq (.seq .none .none) .none)))) .none))))) (.seq .none (.seq (.seq .none (.seq (.seq .none .none) .none)) (.seq .none (.seq (.seq .none (.seq (.seq .none .none) .none)) (.seq .none (.seq .none (.seq .none .none)))))))))))
theorem T3_ok : chkFn prog Tryd.f3 T3 = true := by kernel_rfl
def B3 (n_p0 k_p1 : Value) (w : World) (K : Value → World → Prop) : Prop :=
  Calls prog 7 #[] w (Ret fun t_0 w =>
  Calls prog 8 #[] w (Ret fun t_1 w =>
  pvv prog (Op.unary .not t_1) w fun t_2 w =>
  cd t_2 (
    K (.bool false) w) <|
  lp (fun σ w again_4 => pop σ fun i_3 σ => fin σ <|
    pvv prog (convert 5 3 n_p0) w fun t_5 w =>
    pvv prog (binOp .rem 3 t_5 (.int .i64 6)) w fun t_6 w =>
    pvv prog (binOp .lss 3 i_3 t_6) w fun t_7 w =>
    cd t_7 (
      Calls prog 9 #[t_0, (.int .i64 7), (.string ⟨#[99]⟩), (.int .u8 1), (.int .i64 0)] w (Ret fun t_8 w =>
      pvv prog (Instr.extract t_8 0) w fun t_9 w =>
      pvv prog (Instr.extract t_8 1) w fun t_10 w =>
      pvv prog (Instr.extract t_8 2) w fun t_11 w =>
      efv prog (Instr.alloc 27 true (.tuple #[])) w fun t_12 w =>
      efv prog (Instr.alloc 29 true (.tuple #[])) w fun t_13 w =>
      efu prog (Instr.storeAt 27 t_12 t_9) w fun u_14 w =>
      efu prog (Instr.storeAt 29 t_13 t_10) w fun u_15 w =>
      pvv prog (oEq .eql 30 (.tmp 34) (.const (.int .i64 0)) t_11 (.int .i64 0)) w fun t_16 w =>
      pvv prog (binOp .lss 3 i_3 (.int .i64 2)) w fun t_17 w =>
      pvv prog (oEq .neq 4 (.tmp 35) (.tmp 37) t_16 t_17) w fun t_18 w =>
      gate (some (t_18, false)) (fun K => K t_11 w) w fun t_19 w =>
      gate (some (t_18, false)) (fun K => pvv prog (oEq .neq 30 (.tmp 40) (.const (.int .i64 0)) t_19 (.int .i64 0)) w K) w fun t_20 w =>
      gate (some (t_18, false)) (fun K => K t_20 w) w fun t_21 w =>
      gate (some (t_21, true)) (fun K => K t_11 w) w fun t_22 w =>
      gate (some (t_21, true)) (fun K => pvv prog (oEq .neq 30 (.tmp 43) (.const (.int .i64 23)) t_22 (.int .i64 23)) w K) w fun t_23 w =>
      gate (some (t_18, false)) (fun K => pv prog (oPick t_21 t_23 (.bool false)) w K) w fun t_24 w =>
      pv prog (oPick t_18 (.bool true) t_24) w fun t_25 w =>
      cd t_25 (
        K (.bool false) w) <|
      pvv prog (binOp .add 3 i_3 (.int .i64 1)) w fun t_26 w =>
      again_4 [t_26] w)) <|
    Calls prog 10 #[t_0, (.int .i64 7)] w (Ret fun t_27 w =>
    pv prog (oBi .len #[33] 3 #[false] #[t_27]) w fun t_28 w =>
    pvv prog (oEq .eql 3 (.tmp 50) (.const (.int .i64 0)) t_28 (.int .i64 0)) w fun t_29 w =>
    cd t_29 (
      K (.bool true) w) <|
    pvv prog (convert 5 3 k_p1) w fun t_30 w =>
    pvv prog (binOp .rem 3 t_30 t_28) w fun t_31 w =>
    pvv prog (binOp .add 3 t_31 (.int .i64 1)) w fun t_32 w =>
    Calls prog 11 #[t_0, t_32] w (Ret fun t_33 w =>
    pvv prog (oEq .neq 30 (.tmp 59) (.const (.int .i64 0)) t_33 (.int .i64 0)) w fun t_34 w =>
    gate (some (t_34, false)) (fun K => K t_0 w) w fun t_35 w =>
    gate (some (t_34, false)) (fun K => Calls prog 10 #[t_35, (.int .i64 7)] w (Ret K)) w fun t_36 w =>
    gate (some (t_34, false)) (fun K => pv prog (oBi .len #[33] 3 #[false] #[t_36]) w K) w fun t_37 w =>
    gate (some (t_34, false)) (fun K => K t_28 w) w fun t_38 w =>
    gate (some (t_34, false)) (fun K => pvv prog (binOp .sub 3 t_38 (.int .i64 1)) w K) w fun t_39 w =>
    gate (some (t_34, false)) (fun K => pvv prog (oEq .neq 3 (.tmp 64) (.tmp 66) t_37 t_39) w K) w fun t_40 w =>
    pv prog (oPick t_34 (.bool true) t_40) w fun t_41 w =>
    cd t_41 (
      K (.bool false) w) <|
    Calls prog 9 #[t_0, (.int .i64 7), (.string ⟨#[99]⟩), (.int .u8 1), (.int .i64 0)] w (Ret fun t_42 w =>
    pvv prog (Instr.extract t_42 0) w fun t_43 w =>
    pvv prog (Instr.extract t_42 1) w fun t_44 w =>
    pvv prog (Instr.extract t_42 2) w fun t_45 w =>
    efv prog (Instr.alloc 27 true (.tuple #[])) w fun t_46 w =>
    efv prog (Instr.alloc 29 true (.tuple #[])) w fun t_47 w =>
    efu prog (Instr.storeAt 27 t_46 t_43) w fun u_48 w =>
    efu prog (Instr.storeAt 29 t_47 t_44) w fun u_49 w =>
    Calls prog 9 #[t_0, (.int .i64 8), (.string ⟨#[99]⟩), (.int .u8 1), (.int .i64 0)] w (Ret fun t_50 w =>
    pvv prog (Instr.extract t_50 0) w fun t_51 w =>
    pvv prog (Instr.extract t_50 1) w fun t_52 w =>
    pvv prog (Instr.extract t_50 2) w fun t_53 w =>
    efv prog (Instr.alloc 27 true (.tuple #[])) w fun t_54 w =>
    efv prog (Instr.alloc 29 true (.tuple #[])) w fun t_55 w =>
    efu prog (Instr.storeAt 27 t_54 t_51) w fun u_56 w =>
    efu prog (Instr.storeAt 29 t_55 t_52) w fun u_57 w =>
    pvv prog (oEq .eql 30 (.tmp 81) (.const (.int .i64 0)) t_45 (.int .i64 0)) w fun t_58 w =>
    gate (some (t_58, true)) (fun K => K t_53 w) w fun t_59 w =>
    gate (some (t_58, true)) (fun K => pvv prog (oEq .eql 30 (.tmp 84) (.const (.int .i64 0)) t_59 (.int .i64 0)) w K) w fun t_60 w =>
    pv prog (oPick t_58 t_60 (.bool false)) w fun t_61 w =>
    K t_61 w))))) [(.int .i64 0)] w))
theorem B3_eq (n_p0 k_p1 : Value) (w : World) (K : Value → World → Prop) : denFn prog Tryd.f3 T3 [n_p0, k_p1] w K = B3 n_p0 k_p1 w K := by kernel_rfl
theorem c3 {n_p0 k_p1 : Value} {w : World} {K : Value → World → Prop} (h : B3 n_p0 k_p1 w K) : Calls prog 3 #[n_p0, k_p1] w (Ret K) :=
  denFn_calls Tryd.func3 T3_ok (Eq.mpr (B3_eq n_p0 k_p1 w K) h)

-- 5 holdfast/holdfastlaw12.TokenNarrow
def T5 : Ann := (.seq .none (.seq .none (.seq (.seq .none (.seq (.seq .none .none) .none)) (.seq (.seq .none (.block (.loop 34359476736 [9] (.seq (.seq .none (.seq .none .none)) (.seq (.block .none) .none))))) (.seq .none (.seq (.seq .none (.seq (.seq .none .none) .none)) (.seq .none (.seq .none .none))))))))
theorem T5_ok : chkFn prog Tryd.f5 T5 = true := by kernel_rfl
def B5 (l_p0 id_p1 now_p2 : Value) (w : World) (K : Value → World → Prop) : Prop :=
  Calls prog 7 #[] w (Ret fun t_0 w =>
  Calls prog 12 #[] w (Ret fun t_1 w =>
  Calls prog 8 #[] w (Ret fun t_2 w =>
  pvv prog (Op.unary .not t_2) w fun t_3 w =>
  cd t_3 (
    K (.bool false) w) <|
  lp (fun σ w again_5 => pop σ fun i_4 σ => fin σ <|
    pv prog (oBi .len #[37] 3 #[false] #[l_p0]) w fun t_6 w =>
    pvv prog (binOp .lss 3 i_4 t_6) w fun t_7 w =>
    gate (some (t_7, true)) (fun K => K i_4 w) w fun t_8 w =>
    gate (some (t_7, true)) (fun K => pvv prog (binOp .lss 3 t_8 (.int .i64 80)) w K) w fun t_9 w =>
    pv prog (oPick t_7 t_9 (.bool false)) w fun t_10 w =>
    cd t_10 (
      pvv prog (Instr.indexAt 37 l_p0 i_4) w fun t_11 w =>
      ldv prog (Instr.loadAt 43 t_11) w fun t_12 w =>
      Calls prog 13 #[t_0, t_1, t_12] w (Ret fun t_13 w =>
      pvv prog (binOp .add 3 i_4 (.int .i64 1)) w fun t_14 w =>
      again_5 [t_14] w)) <|
    Calls prog 14 #[t_0, id_p1, now_p2] w (Ret fun t_15 w =>
    pvv prog (Instr.extract t_15 0) w fun t_16 w =>
    pvv prog (Instr.extract t_15 1) w fun t_17 w =>
    efv prog (Instr.alloc 29 true (.tuple #[])) w fun t_18 w =>
    efu prog (Instr.storeAt 29 t_18 t_16) w fun u_19 w =>
    pvv prog (oEq .neq 30 (.tmp 42) (.const (.int .i64 0)) t_17 (.int .i64 0)) w fun t_20 w =>
    cd t_20 (
      ldv prog (Instr.loadAt 29 t_18) w fun t_21 w =>
      pvv prog (Instr.build 29 #[]) w fun t_22 w =>
      pvv prog (oEq .eql 29 (.tmp 44) (.tmp 45) t_21 t_22) w fun t_23 w =>
      K t_23 w) <|
    pvv prog (Instr.fieldAt 29 t_18 1) w fun t_24 w =>
    ldv prog (Instr.loadAt 3 t_24) w fun t_25 w =>
    Calls prog 15 #[t_0, t_25] w (Ret fun t_26 w =>
    pvv prog (Instr.extract t_26 0) w fun t_27 w =>
    pvv prog (Instr.extract t_26 1) w fun t_28 w =>
    efv prog (Instr.alloc 27 true (.tuple #[])) w fun f_29 w =>
    efu prog (Instr.storeAt 27 f_29 t_27) w fun u_30 w =>
    pvv prog (oEq .eql 30 (.tmp 54) (.const (.int .i64 0)) t_28 (.int .i64 0)) w fun t_31 w =>
    gate (some (t_31, true)) (fun K => pvv prog (Instr.fieldAt 29 t_18 2) w K) w fun t_32 w =>
    gate (some (t_31, true)) (fun K => ldv prog (Instr.loadAt 25 t_32) w K) w fun t_33 w =>
    gate (some (t_31, true)) (fun K => pvv prog (Instr.fieldAt 27 f_29 3) w K) w fun t_34 w =>
    gate (some (t_31, true)) (fun K => ldv prog (Instr.loadAt 25 t_34) w K) w fun t_35 w =>
    gate (some (t_31, true)) (fun K => pvv prog (binOp .and 25 t_33 t_35) w K) w fun t_36 w =>
    gate (some (t_31, true)) (fun K => pvv prog (Instr.fieldAt 29 t_18 2) w K) w fun t_37 w =>
    gate (some (t_31, true)) (fun K => ldv prog (Instr.loadAt 25 t_37) w K) w fun t_38 w =>
    gate (some (t_31, true)) (fun K => pvv prog (oEq .eql 25 (.tmp 61) (.tmp 63) t_36 t_38) w K) w fun t_39 w =>
    pv prog (oPick t_31 t_39 (.bool false)) w fun t_40 w =>
    gate (some (t_40, true)) (fun K => K now_p2 w) w fun t_41 w =>
    gate (some (t_40, true)) (fun K => pvv prog (Instr.fieldAt 29 t_18 3) w K) w fun t_42 w =>
    gate (some (t_40, true)) (fun K => ldv prog (Instr.loadAt 3 t_42) w K) w fun t_43 w =>
    gate (some (t_40, true)) (fun K => pvv prog (binOp .lss 3 t_41 t_43) w K) w fun t_44 w =>
    pv prog (oPick t_40 t_44 (.bool false)) w fun t_45 w =>
    gate (some (t_45, true)) (fun K => pvv prog (Instr.fieldAt 29 t_18 0) w K) w fun t_46 w =>
    gate (some (t_45, true)) (fun K => ldv prog (Instr.loadAt 3 t_46) w K) w fun t_47 w =>
    gate (some (t_45, true)) (fun K => K id_p1 w) w fun t_48 w =>
    gate (some (t_45, true)) (fun K => pvv prog (oEq .eql 3 (.tmp 74) (.tmp 75) t_47 t_48) w K) w fun t_49 w =>
    pv prog (oPick t_45 t_49 (.bool false)) w fun t_50 w =>
    K t_50 w))) [(.int .i64 0)] w)))
theorem B5_eq (l_p0 id_p1 now_p2 : Value) (w : World) (K : Value → World → Prop) : denFn prog Tryd.f5 T5 [l_p0, id_p1, now_p2] w K = B5 l_p0 id_p1 now_p2 w K := by kernel_rfl
theorem c5 {l_p0 id_p1 now_p2 : Value} {w : World} {K : Value → World → Prop} (h : B5 l_p0 id_p1 now_p2 w K) : Calls prog 5 #[l_p0, id_p1, now_p2] w (Ret K) :=
  denFn_calls Tryd.func5 T5_ok (Eq.mpr (B5_eq l_p0 id_p1 now_p2 w K) h)

-- 67 (*holdfast/holdfastref12.Store).ends
def T67 : Ann := (.seq .none (.seq (.seq .none (.seq (.seq .none .none) .none)) (.seq .none (.seq .none (.seq (.seq .none (.block (.loop 144115188075790976 [7, 9] (.seq (.seq .none (.seq .none .none)) (.meet 144115188071661696 [7] (.block (.seq .none (.seq (.seq .none .none) .none))) .none))))) (.seq .none .none))))))
theorem T67_ok : chkFn prog Tryd.f67 T67 = true := by kernel_rfl
def B67 (s_p0 client_p1 sessions_p2 : Value) (w : World) (K : Value → World → Prop) : Prop :=
  pvv prog (oEq .eql 38 (.tmp 10) (.const (.pointer none)) s_p0 (.pointer none)) w fun t_0 w =>
  cd t_0 (
    K (.slice none 0 0) w) <|
  pv prog (oNil s_p0) w fun t_1 w =>
  pvv prog (Instr.fieldAt 83 t_1 3) w fun t_2 w =>
  ldv prog (Instr.loadAt 33 t_2) w fun t_3 w =>
  lp (fun σ w again_6 => pop σ fun out_4 σ => pop σ fun i_5 σ => fin σ <|
    pv prog (oBi .len #[33] 3 #[false] #[t_3]) w fun t_7 w =>
    pvv prog (binOp .lss 3 i_5 t_7) w fun t_8 w =>
    cd t_8 (
      jn (fun σ w => pop σ fun out_9 σ => fin σ <|
        pvv prog (binOp .add 3 i_5 (.int .i64 1)) w fun t_10 w =>
        again_6 [out_9, t_10] w) fun k_11 =>
      pvv prog (Instr.indexAt 33 t_3 i_5) w fun t_12 w =>
      pvv prog (Instr.fieldAt 27 t_12 1) w fun t_13 w =>
      ldv prog (Instr.loadAt 3 t_13) w fun t_14 w =>
      Calls prog 84 #[sessions_p2, t_14] w (Ret fun t_15 w =>
      gate (some (t_15, true)) (fun K => K client_p1 w) w fun t_16 w =>
      gate (some (t_15, true)) (fun K => pvv prog (oEq .eql 9 (.tmp 30) (.const (.string ⟨#[]⟩)) t_16 (.string ⟨#[]⟩)) w K) w fun t_17 w =>
      gate (some (t_15, true)) (fun K => K t_17 w) w fun t_18 w =>
      gate (some (t_18, false)) (fun K => K t_3 w) w fun t_19 w =>
      gate (some (t_18, false)) (fun K => K i_5 w) w fun t_20 w =>
      gate (some (t_18, false)) (fun K => pvv prog (Instr.indexAt 33 t_19 t_20) w K) w fun t_21 w =>
      gate (some (t_18, false)) (fun K => pvv prog (Instr.fieldAt 27 t_21 2) w K) w fun t_22 w =>
      gate (some (t_18, false)) (fun K => ldv prog (Instr.loadAt 9 t_22) w K) w fun t_23 w =>
      gate (some (t_18, false)) (fun K => K client_p1 w) w fun t_24 w =>
      gate (some (t_18, false)) (fun K => pvv prog (oEq .eql 9 (.tmp 37) (.tmp 38) t_23 t_24) w K) w fun t_25 w =>
      gate (some (t_15, true)) (fun K => pv prog (oPick t_18 (.bool true) t_25) w K) w fun t_26 w =>
      pv prog (oPick t_15 t_26 (.bool false)) w fun t_27 w =>
      cd t_27 (
        pvv prog (Instr.indexAt 33 t_3 i_5) w fun t_28 w =>
        pvv prog (Instr.fieldAt 27 t_28 0) w fun t_29 w =>
        ldv prog (Instr.loadAt 3 t_29) w fun t_30 w =>
        efv prog (Instr.buildSlice 41 1 #[(0, t_30)]) w fun t_31 w =>
        ef prog (oBi .append #[41, 41] 41 #[false, false] #[out_4, t_31]) w fun t_32 w =>
        pvv prog (Instr.indexAt 33 t_3 i_5) w fun t_33 w =>
        pvv prog (Instr.fieldAt 27 t_33 0) w fun t_34 w =>
        ldv prog (Instr.loadAt 3 t_34) w fun t_35 w =>
        Calls prog 66 #[s_p0, t_35] w (Ret fun t_36 w =>
        k_11 [t_32] w)) <|
      k_11 [out_4] w)) <|
    K out_4 w) [(.slice none 0 0), (.int .i64 0)] w
theorem B67_eq (s_p0 client_p1 sessions_p2 : Value) (w : World) (K : Value → World → Prop) : denFn prog Tryd.f67 T67 [s_p0, client_p1, sessions_p2] w K = B67 s_p0 client_p1 sessions_p2 w K := by kernel_rfl
theorem c67 {s_p0 client_p1 sessions_p2 : Value} {w : World} {K : Value → World → Prop} (h : B67 s_p0 client_p1 sessions_p2 w K) : Calls prog 67 #[s_p0, client_p1, sessions_p2] w (Ret K) :=
  denFn_calls Tryd.func67 T67_ok (Eq.mpr (B67_eq s_p0 client_p1 sessions_p2 w K) h)

-- 44 (*holdfast/holdfastref12.Store).Sweep
def T44 : Ann := (.seq .none (.seq (.seq .none (.seq .none (.seq (.seq .none .none) .none))) (.seq .none (.seq .none (.seq .none (.seq (.seq .none (.block (.loop 2251799812637568 [7, 8, 9] (.seq (.seq .none (.seq .none .none)) (.meet 2251799276814720 [7, 8] (.block (.seq .none (.seq .none .none))) .none))))) (.seq .none (.seq .none .none))))))))
theorem T44_ok : chkFn prog Tryd.f44 T44 = true := by kernel_rfl
def B44 (s_p0 now_p1 : Value) (w : World) (K : Value → World → Prop) : Prop :=
  Calls prog 64 #[s_p0, now_p1] w (Ret fun t_0 w =>
  pvv prog (oEq .neq 30 (.tmp 13) (.const (.int .i64 0)) t_0 (.int .i64 0)) w fun t_1 w =>
  cd t_1 (
    K (.tuple #[(.int .i64 0), t_0]) w) <|
  pv prog (oNil s_p0) w fun t_2 w =>
  pvv prog (Instr.fieldAt 83 t_2 2) w fun t_3 w =>
  efu prog (Instr.storeAt 3 t_3 now_p1) w fun u_4 w =>
  lp (fun σ w again_8 => pop σ fun t_5 σ => pop σ fun n_6 σ => pop σ fun i_7 σ => fin σ <|
    pv prog (oNil s_p0) w fun t_9 w =>
    pvv prog (Instr.fieldAt 83 t_9 4) w fun t_10 w =>
    ldv prog (Instr.loadAt 81 t_10) w fun t_11 w =>
    pv prog (oBi .len #[81] 3 #[false] #[t_11]) w fun t_12 w =>
    pvv prog (binOp .lss 3 i_7 t_12) w fun t_13 w =>
    cd t_13 (
      jn (fun σ w => pop σ fun t_14 σ => pop σ fun n_15 σ => fin σ <|
        pvv prog (binOp .add 3 i_7 (.int .i64 1)) w fun t_16 w =>
        again_8 [t_14, n_15, t_16] w) fun k_17 =>
      pv prog (oNil s_p0) w fun t_18 w =>
      pvv prog (Instr.fieldAt 83 t_18 4) w fun t_19 w =>
      ldv prog (Instr.loadAt 81 t_19) w fun t_20 w =>
      pvv prog (Instr.indexAt 81 t_20 i_7) w fun t_21 w =>
      pvv prog (Instr.fieldAt 29 t_21 3) w fun t_22 w =>
      ldv prog (Instr.loadAt 3 t_22) w fun t_23 w =>
      pvv prog (binOp .lss 3 now_p1 t_23) w fun t_24 w =>
      cd t_24 (
        pv prog (oNil s_p0) w fun t_25 w =>
        pvv prog (Instr.fieldAt 83 t_25 4) w fun t_26 w =>
        ldv prog (Instr.loadAt 81 t_26) w fun t_27 w =>
        pvv prog (Instr.indexAt 81 t_27 i_7) w fun t_28 w =>
        ldv prog (Instr.loadAt 29 t_28) w fun t_29 w =>
        efv prog (Instr.buildSlice 81 1 #[(0, t_29)]) w fun t_30 w =>
        ef prog (oBi .append #[81, 81] 81 #[false, false] #[t_5, t_30]) w fun t_31 w =>
        k_17 [t_31, n_6] w) <|
      pvv prog (binOp .add 3 n_6 (.int .i64 1)) w fun t_32 w =>
      k_17 [t_5, t_32] w) <|
    pv prog (oNil s_p0) w fun t_33 w =>
    pvv prog (Instr.fieldAt 83 t_33 4) w fun t_34 w =>
    efu prog (Instr.storeAt 81 t_34 t_5) w fun u_35 w =>
    K (.tuple #[n_6, (.int .i64 0)]) w) [(.slice none 0 0), (.int .i64 0), (.int .i64 0)] w)
theorem B44_eq (s_p0 now_p1 : Value) (w : World) (K : Value → World → Prop) : denFn prog Tryd.f44 T44 [s_p0, now_p1] w K = B44 s_p0 now_p1 w K := by kernel_rfl
theorem c44 {s_p0 now_p1 : Value} {w : World} {K : Value → World → Prop} (h : B44 s_p0 now_p1 w K) : Calls prog 44 #[s_p0, now_p1] w (Ret K) :=
  denFn_calls Tryd.func44 T44_ok (Eq.mpr (B44_eq s_p0 now_p1 w K) h)

-- 97 slices.heapSortOrdered[int]
def T97 : Ann := (.seq .none (.seq .none (.seq .none (.seq (.seq .none (.block (.loop 133956096 [9] (.seq (.seq .none (.seq .none .none)) (.seq (.block .none) .none))))) (.seq .none (.block (.loop 72057593501058048 [10] (.seq (.seq .none (.seq .none .none)) (.seq (.block (.seq (.draw [.op 0 .pure, .op 1 .pure, .op 2 .pure, .op 3 .pure, .op 4 .pure, .op 5 .pure, .op 6 .pure, .op 7 .pure, .op 8 .pure, .op 9 .pure, .op 10 .pure, .op 12 .pure, .op 13 .pure, .op 14 .pure, .op 11 .load, .op 15 .load, .op 16 .pure, .op 17 .eff, .op 18 .pure, .op 19 .eff]) .none)) .none)))))))))
theorem T97_ok : chkFn prog Tryd.f97 T97 = true := by kernel_rfl
def B97 (data_p0 a_p1 b_p2 : Value) (w : World) (K : Value → World → Prop) : Prop :=
  pvv prog (binOp .sub 3 b_p2 a_p1) w fun t_0 w =>
  pvv prog (binOp .sub 3 t_0 (.int .i64 1)) w fun t_1 w =>
  pvv prog (binOp .quo 3 t_1 (.int .i64 2)) w fun t_2 w =>
  lp (fun σ w again_4 => pop σ fun i_3 σ => fin σ <|
    pvv prog (binOp .geq 3 i_3 (.int .i64 0)) w fun t_5 w =>
    cd t_5 (
      Calls prog 111 #[data_p0, i_3, t_0, a_p1] w (Ret fun t_6 w =>
      pvv prog (binOp .sub 3 i_3 (.int .i64 1)) w fun t_7 w =>
      again_4 [t_7] w)) <|
    pvv prog (binOp .sub 3 t_0 (.int .i64 1)) w fun t_8 w =>
    lp (fun σ w again_10 => pop σ fun i_9 σ => fin σ <|
      pvv prog (binOp .geq 3 i_9 (.int .i64 0)) w fun t_11 w =>
      cd t_11 (
        dr w fun w =>
        pvv prog (binOp .add 3 a_p1 i_9) w fun t_12 w =>
        pvv prog (binOp .add 3 a_p1 i_9) w fun t_13 w =>
        pvv prog (Instr.indexAt 41 data_p0 t_13) w fun t_14 w =>
        pvv prog (Instr.indexAt 41 data_p0 a_p1) w fun t_15 w =>
        bindS (vN (Instr.loadAt 3 t_14)) fun m_17 => ldv prog (Instr.loadAt 3 t_14) w fun t_16 w =>
        bindS (vN (Instr.loadAt 3 t_15)) fun m_19 => ldv prog (Instr.loadAt 3 t_15) w fun t_18 w =>
        pvv prog (Instr.indexAt 41 data_p0 a_p1) w fun t_20 w =>
        efu prog (Instr.storeAt 3 t_20 t_16) w fun u_21 w =>
        pvv prog (Instr.indexAt 41 data_p0 t_12) w fun t_22 w =>
        efu prog (Instr.storeAt 3 t_22 t_18) w fun u_23 w =>
        Calls prog 111 #[data_p0, (.int .i64 0), i_9, a_p1] w (Ret fun t_24 w =>
        pvv prog (binOp .sub 3 i_9 (.int .i64 1)) w fun t_25 w =>
        again_10 [t_25] w)) <|
      K (.tuple #[]) w) [t_8] w) [t_2] w
theorem B97_eq (data_p0 a_p1 b_p2 : Value) (w : World) (K : Value → World → Prop) : denFn prog Tryd.f97 T97 [data_p0, a_p1, b_p2] w K = B97 data_p0 a_p1 b_p2 w K := by kernel_rfl
theorem c97 {data_p0 a_p1 b_p2 : Value} {w : World} {K : Value → World → Prop} (h : B97 data_p0 a_p1 b_p2 w K) : Calls prog 97 #[data_p0, a_p1, b_p2] w (Ret K) :=
  denFn_calls Tryd.func97 T97_ok (Eq.mpr (B97_eq data_p0 a_p1 b_p2 w K) h)

-- 63 (*holdfast/holdfastref12.Store).fresh
def T63 : Ann := (.seq .none (.meet 6152 [3] (.seq .none (.seq .none .none)) (.seq .none (.seq .none (.seq .none (.seq .none (.seq .none (.seq .none .none))))))))
theorem T63_ok : chkFn prog Tryd.f63 T63 = true := by kernel_rfl
def B63 (s_p0 family_p1 scopes_p2 until_p3 : Value) (w : World) (K : Value → World → Prop) : Prop :=
  efv prog (Instr.alloc 29 true (.tuple #[])) w fun t_0 w =>
  jn (fun σ w => pop σ fun until_1 σ => fin σ <|
    pv prog (oNil s_p0) w fun t_2 w =>
    pvv prog (Instr.fieldAt 83 t_2 1) w fun t_3 w =>
    ldv prog (Instr.loadAt 3 t_3) w fun t_4 w =>
    pvv prog (Instr.build 29 #[(0, t_4), (1, family_p1), (2, scopes_p2), (3, until_1)]) w fun t_5 w =>
    efv prog (Instr.alloc 29 true (.tuple #[])) w fun x_6 w =>
    efu prog (Instr.storeAt 29 x_6 t_5) w fun u_7 w =>
    pv prog (oNil s_p0) w fun t_8 w =>
    pvv prog (Instr.fieldAt 83 t_8 1) w fun t_9 w =>
    ldv prog (Instr.loadAt 3 t_9) w fun t_10 w =>
    pvv prog (binOp .add 3 t_10 (.int .i64 1)) w fun t_11 w =>
    pv prog (oNil s_p0) w fun t_12 w =>
    pvv prog (Instr.fieldAt 83 t_12 1) w fun t_13 w =>
    efu prog (Instr.storeAt 3 t_13 t_11) w fun u_14 w =>
    pv prog (oNil s_p0) w fun t_15 w =>
    pvv prog (Instr.fieldAt 83 t_15 4) w fun t_16 w =>
    ldv prog (Instr.loadAt 81 t_16) w fun t_17 w =>
    ef prog (oBi .append #[81, 81] 81 #[false, false] #[(.slice none 0 0), t_17]) w fun t_18 w =>
    ldv prog (Instr.loadAt 29 x_6) w fun t_19 w =>
    efv prog (Instr.buildSlice 81 1 #[(0, t_19)]) w fun t_20 w =>
    ef prog (oBi .append #[81, 81] 81 #[false, false] #[t_18, t_20]) w fun t_21 w =>
    pv prog (oNil s_p0) w fun t_22 w =>
    pvv prog (Instr.fieldAt 83 t_22 4) w fun t_23 w =>
    efu prog (Instr.storeAt 81 t_23 t_21) w fun u_24 w =>
    ldv prog (Instr.loadAt 29 x_6) w fun t_25 w =>
    efu prog (Instr.storeAt 29 t_0 t_25) w fun u_26 w =>
    ∃ r_27, (do loadVar 29 (← asAddr t_0)).run prog w = .ok r_27 w ∧ K r_27 w) fun k_28 =>
  pvv prog (binOp .gtr 3 until_p3 (.int .i64 1099511627776)) w fun t_29 w =>
  cd t_29 (
    k_28 [(.int .i64 1099511627776)] w) <|
  k_28 [until_p3] w
theorem B63_eq (s_p0 family_p1 scopes_p2 until_p3 : Value) (w : World) (K : Value → World → Prop) : denFn prog Tryd.f63 T63 [s_p0, family_p1, scopes_p2, until_p3] w K = B63 s_p0 family_p1 scopes_p2 until_p3 w K := by kernel_rfl
theorem c63 {s_p0 family_p1 scopes_p2 until_p3 : Value} {w : World} {K : Value → World → Prop} (h : B63 s_p0 family_p1 scopes_p2 until_p3 w K) : Calls prog 63 #[s_p0, family_p1, scopes_p2, until_p3] w (Ret K) :=
  denFn_calls Tryd.func63 T63_ok (Eq.mpr (B63_eq s_p0 family_p1 scopes_p2 until_p3 w K) h)

-- 55 (*holdfast/session.Table).find
def T55 : Ann := (.seq .none (.seq (.seq .none (.seq (.seq .none .none) .none)) (.seq .none (.seq (.seq .none (.seq (.seq .none .none) .none)) (.seq .none .none)))))
theorem T55_ok : chkFn prog Tryd.f55 T55 = true := by kernel_rfl
def B55 (t_p0 id_p1 : Value) (w : World) (K : Value → World → Prop) : Prop :=
  efv prog (Instr.alloc 59 true (.tuple #[])) w fun t_0 w =>
  pvv prog (binOp .lss 3 id_p1 (.int .i64 1)) w fun t_1 w =>
  gate (some (t_1, false)) (fun K => K id_p1 w) w fun t_2 w =>
  gate (some (t_1, false)) (fun K => K t_p0 w) w fun t_3 w =>
  gate (some (t_1, false)) (fun K => pv prog (oNil t_3) w K) w fun t_4 w =>
  gate (some (t_1, false)) (fun K => pvv prog (Instr.fieldAt 96 t_4 1) w K) w fun t_5 w =>
  gate (some (t_1, false)) (fun K => ldv prog (Instr.loadAt 3 t_5) w K) w fun t_6 w =>
  gate (some (t_1, false)) (fun K => pvv prog (binOp .geq 3 t_2 t_6) w K) w fun t_7 w =>
  pv prog (oPick t_1 (.bool true) t_7) w fun t_8 w =>
  cd t_8 (
    pvv prog (Instr.build 59 #[]) w fun t_9 w =>
    efu prog (Instr.storeAt 59 t_0 t_9) w fun u_10 w =>
    ∃ r_11, (do loadVar 59 (← asAddr t_0)).run prog w = .ok r_11 w ∧ K (.tuple #[r_11, (.int .i64 4)]) w) <|
  pv prog (oNil t_p0) w fun t_12 w =>
  pvv prog (Instr.fieldAt 96 t_12 2) w fun t_13 w =>
  ldv prog (Instr.loadAt 92 t_13) w fun t_14 w =>
  ldv prog (Instr.lookup 92 t_14 id_p1 true) w fun t_15 w =>
  pvv prog (Instr.extract t_15 0) w fun t_16 w =>
  pvv prog (Instr.extract t_15 1) w fun t_17 w =>
  efv prog (Instr.alloc 59 true (.tuple #[])) w fun s_18 w =>
  efu prog (Instr.storeAt 59 s_18 t_16) w fun u_19 w =>
  pvv prog (Op.unary .not t_17) w fun t_20 w =>
  cd t_20 (
    pvv prog (Instr.build 59 #[]) w fun t_21 w =>
    efu prog (Instr.storeAt 59 t_0 t_21) w fun u_22 w =>
    ∃ r_23, (do loadVar 59 (← asAddr t_0)).run prog w = .ok r_23 w ∧ K (.tuple #[r_23, (.int .i64 12)]) w) <|
  ldv prog (Instr.loadAt 59 s_18) w fun t_24 w =>
  efu prog (Instr.storeAt 59 t_0 t_24) w fun u_25 w =>
  ∃ r_26, (do loadVar 59 (← asAddr t_0)).run prog w = .ok r_26 w ∧ K (.tuple #[r_26, (.int .i64 0)]) w
theorem B55_eq (t_p0 id_p1 : Value) (w : World) (K : Value → World → Prop) : denFn prog Tryd.f55 T55 [t_p0, id_p1] w K = B55 t_p0 id_p1 w K := by kernel_rfl
theorem c55 {t_p0 id_p1 : Value} {w : World} {K : Value → World → Prop} (h : B55 t_p0 id_p1 w K) : Calls prog 55 #[t_p0, id_p1] w (Ret K) :=
  denFn_calls Tryd.func55 T55_ok (Eq.mpr (B55_eq t_p0 id_p1 w K) h)

-- 31 (holdfast/token.row[holdfast/api.Family]).find
def T31 : Ann := (.seq .none (.seq (.seq .none (.seq (.seq .none .none) .none)) (.seq .none (.seq (.seq .none (.seq (.seq .none .none) .none)) (.seq .none .none)))))
theorem T31_ok : chkFn prog Tryd.f31 T31 = true := by kernel_rfl
def B31 (r_p0 id_p1 : Value) (w : World) (K : Value → World → Prop) : Prop :=
  efv prog (Instr.box 69 r_p0) w fun r_0 w =>
  efv prog (Instr.alloc 27 true (.tuple #[])) w fun x_1 w =>
  pvv prog (binOp .lss 3 id_p1 (.int .i64 1)) w fun t_2 w =>
  gate (some (t_2, false)) (fun K => K id_p1 w) w fun t_3 w =>
  gate (some (t_2, false)) (fun K => pvv prog (Instr.fieldAt 69 r_0 0) w K) w fun t_4 w =>
  gate (some (t_2, false)) (fun K => ldv prog (Instr.loadAt 3 t_4) w K) w fun t_5 w =>
  gate (some (t_2, false)) (fun K => pvv prog (binOp .geq 3 t_3 t_5) w K) w fun t_6 w =>
  pv prog (oPick t_2 (.bool true) t_6) w fun t_7 w =>
  cd t_7 (
    ldv prog (Instr.loadAt 27 x_1) w fun t_8 w =>
    efu prog (Instr.storeAt 27 x_1 t_8) w fun u_9 w =>
    ∃ r_10, (do loadVar 27 (← asAddr x_1)).run prog w = .ok r_10 w ∧ K (.tuple #[r_10, (.int .i64 4)]) w) <|
  pvv prog (Instr.fieldAt 69 r_0 1) w fun t_11 w =>
  ldv prog (Instr.loadAt 67 t_11) w fun t_12 w =>
  ldv prog (Instr.lookup 67 t_12 id_p1 true) w fun t_13 w =>
  pvv prog (Instr.extract t_13 0) w fun t_14 w =>
  pvv prog (Instr.extract t_13 1) w fun t_15 w =>
  efu prog (Instr.storeAt 27 x_1 t_14) w fun u_16 w =>
  pvv prog (Op.unary .not t_15) w fun t_17 w =>
  cd t_17 (
    ldv prog (Instr.loadAt 27 x_1) w fun t_18 w =>
    efu prog (Instr.storeAt 27 x_1 t_18) w fun u_19 w =>
    ∃ r_20, (do loadVar 27 (← asAddr x_1)).run prog w = .ok r_20 w ∧ K (.tuple #[r_20, (.int .i64 12)]) w) <|
  ldv prog (Instr.loadAt 27 x_1) w fun t_21 w =>
  efu prog (Instr.storeAt 27 x_1 t_21) w fun u_22 w =>
  ∃ r_23, (do loadVar 27 (← asAddr x_1)).run prog w = .ok r_23 w ∧ K (.tuple #[r_23, (.int .i64 0)]) w
theorem B31_eq (r_p0 id_p1 : Value) (w : World) (K : Value → World → Prop) : denFn prog Tryd.f31 T31 [r_p0, id_p1] w K = B31 r_p0 id_p1 w K := by kernel_rfl
theorem c31 {r_p0 id_p1 : Value} {w : World} {K : Value → World → Prop} (h : B31 r_p0 id_p1 w K) : Calls prog 31 #[r_p0, id_p1] w (Ret K) :=
  denFn_calls Tryd.func31 T31_ok (Eq.mpr (B31_eq r_p0 id_p1 w K) h)

-- 21 (*holdfast/session.Table).Touch
def T21 : Ann := (.seq .none (.seq .none (.meet 4294836224 [] (.seq .none (.seq (.seq .none (.draw [.op 0 .pure, .op 1 .pure, .op 2 .pure, .op 4 .pure, .op 3 .load, .op 5 .load, .op 6 .eff])) .none)) (.seq .none .none))))
theorem T21_ok : chkFn prog Tryd.f21 T21 = true := by kernel_rfl
def B21 (t_p0 id_p1 now_p2 : Value) (w : World) (K : Value → World → Prop) : Prop :=
  efv prog (Instr.alloc 59 true (.tuple #[])) w fun t_0 w =>
  Calls prog 22 #[t_p0, id_p1, now_p2] w (Ret fun t_1 w =>
  pvv prog (Instr.extract t_1 0) w fun t_2 w =>
  pvv prog (Instr.extract t_1 1) w fun t_3 w =>
  efv prog (Instr.alloc 59 true (.tuple #[])) w fun s_4 w =>
  efu prog (Instr.storeAt 59 s_4 t_2) w fun u_5 w =>
  jn (fun σ w => fin σ <|
    ldv prog (Instr.loadAt 59 s_4) w fun t_6 w =>
    efu prog (Instr.storeAt 59 t_0 t_6) w fun u_7 w =>
    ∃ r_8, (do loadVar 59 (← asAddr t_0)).run prog w = .ok r_8 w ∧ K (.tuple #[r_8, t_3]) w) fun k_9 =>
  pvv prog (oEq .eql 30 (.tmp 17) (.const (.int .i64 0)) t_3 (.int .i64 0)) w fun t_10 w =>
  cd t_10 (
    pvv prog (Instr.fieldAt 59 s_4 3) w fun t_11 w =>
    efu prog (Instr.storeAt 3 t_11 now_p2) w fun u_12 w =>
    pv prog (oNil t_p0) w fun t_13 w =>
    pvv prog (Instr.fieldAt 96 t_13 0) w fun t_14 w =>
    pvv prog (Instr.fieldAt 94 t_14 0) w fun t_15 w =>
    efu prog (Instr.storeAt 3 t_15 now_p2) w fun u_16 w =>
    dr w fun w =>
    pv prog (oNil t_p0) w fun t_17 w =>
    pvv prog (Instr.fieldAt 96 t_17 2) w fun t_18 w =>
    bindS (vN (Instr.loadAt 92 t_18)) fun m_20 => ldv prog (Instr.loadAt 92 t_18) w fun t_19 w =>
    bindS (vN (Instr.loadAt 59 s_4)) fun m_22 => ldv prog (Instr.loadAt 59 s_4) w fun t_21 w =>
    efu prog (Instr.mapUpdate 92 t_19 id_p1 t_21) w fun u_23 w =>
    k_9 [] w) <|
  k_9 [] w)
theorem B21_eq (t_p0 id_p1 now_p2 : Value) (w : World) (K : Value → World → Prop) : denFn prog Tryd.f21 T21 [t_p0, id_p1, now_p2] w K = B21 t_p0 id_p1 now_p2 w K := by kernel_rfl
theorem c21 {t_p0 id_p1 now_p2 : Value} {w : World} {K : Value → World → Prop} (h : B21 t_p0 id_p1 now_p2 w K) : Calls prog 21 #[t_p0, id_p1, now_p2] w (Ret K) :=
  denFn_calls Tryd.func21 T21_ok (Eq.mpr (B21_eq t_p0 id_p1 now_p2 w K) h)

-- 43 (*holdfast/token.Store).Sweep
def T43 : Ann := (.seq .none (.seq (.seq .none (.seq .none (.seq (.seq .none .none) .none))) (.seq .none (.seq .none (.seq .none (.seq .none .none))))))
theorem T43_ok : chkFn prog Tryd.f43 T43 = true := by kernel_rfl
def B43 (s_p0 now_p1 : Value) (w : World) (K : Value → World → Prop) : Prop :=
  efv prog (Instr.box 3 now_p1) w fun now_0 w =>
  ldv prog (Instr.loadAt 3 now_0) w fun t_1 w =>
  Calls prog 24 #[s_p0, t_1] w (Ret fun t_2 w =>
  pvv prog (oEq .neq 30 (.tmp 11) (.const (.int .i64 0)) t_2 (.int .i64 0)) w fun t_3 w =>
  cd t_3 (
    K (.tuple #[(.int .i64 0), t_2]) w) <|
  ldv prog (Instr.loadAt 3 now_0) w fun t_4 w =>
  pv prog (oNil s_p0) w fun t_5 w =>
  pvv prog (Instr.fieldAt 74 t_5 2) w fun t_6 w =>
  efu prog (Instr.storeAt 3 t_6 t_4) w fun u_7 w =>
  pv prog (oNil s_p0) w fun t_8 w =>
  pvv prog (Instr.fieldAt 74 t_8 1) w fun t_9 w =>
  pvv prog (Instr.fieldAt 72 t_9 1) w fun t_10 w =>
  ldv prog (Instr.loadAt 70 t_10) w fun t_11 w =>
  ld prog (oBi .len #[70] 3 #[false] #[t_11]) w fun t_12 w =>
  pv prog (oNil s_p0) w fun t_13 w =>
  pvv prog (Instr.fieldAt 74 t_13 1) w fun t_14 w =>
  pvv prog (Instr.fieldAt 72 t_14 1) w fun t_15 w =>
  ldv prog (Instr.loadAt 70 t_15) w fun t_16 w =>
  pvv prog (Instr.makeFunc (.func 69) #[] #[now_0]) w fun t_17 w =>
  Calls prog 59 #[t_16, t_17] w (Ret fun t_18 w =>
  pv prog (oNil s_p0) w fun t_19 w =>
  pvv prog (Instr.fieldAt 74 t_19 1) w fun t_20 w =>
  pvv prog (Instr.fieldAt 72 t_20 1) w fun t_21 w =>
  ldv prog (Instr.loadAt 70 t_21) w fun t_22 w =>
  ld prog (oBi .len #[70] 3 #[false] #[t_22]) w fun t_23 w =>
  pvv prog (binOp .sub 3 t_12 t_23) w fun t_24 w =>
  K (.tuple #[t_24, (.int .i64 0)]) w))
theorem B43_eq (s_p0 now_p1 : Value) (w : World) (K : Value → World → Prop) : denFn prog Tryd.f43 T43 [s_p0, now_p1] w K = B43 s_p0 now_p1 w K := by kernel_rfl
theorem c43 {s_p0 now_p1 : Value} {w : World} {K : Value → World → Prop} (h : B43 s_p0 now_p1 w K) : Calls prog 43 #[s_p0, now_p1] w (Ret K) :=
  denFn_calls Tryd.func43 T43_ok (Eq.mpr (B43_eq s_p0 now_p1 w K) h)

-- 76 strings.makeASCIISet
def T76 : Ann := (.seq .none (.seq (.seq .none (.block (.loop 1048568 [4] (.seq (.seq .none (.seq .none .none)) (.seq (.block (.seq .none (.seq (.seq .none (.seq (.seq .none .none) .none)) .none))) .none))))) (.seq .none .none)))
theorem T76_ok : chkFn prog Tryd.f76 T76 = true := by kernel_rfl
def B76 (chars_p0 : Value) (w : World) (K : Value → World → Prop) : Prop :=
  efv prog (Instr.alloc 119 true (.tuple #[])) w fun as_0 w =>
  lp (fun σ w again_2 => pop σ fun i_1 σ => fin σ <|
    pv prog (oBi .len #[9] 3 #[false] #[chars_p0]) w fun t_3 w =>
    pvv prog (binOp .lss 3 i_1 t_3) w fun t_4 w =>
    cd t_4 (
      pvv prog (Instr.index 9 chars_p0 i_1) w fun t_5 w =>
      pvv prog (binOp .geq 5 t_5 (.int .u8 128)) w fun t_6 w =>
      cd t_6 (
        ldv prog (Instr.loadAt 119 as_0) w fun t_7 w =>
        efu prog (Instr.storeAt 119 as_0 t_7) w fun u_8 w =>
        ∃ r_9, (do loadVar 119 (← asAddr as_0)).run prog w = .ok r_9 w ∧ K (.tuple #[r_9, (.bool false)]) w) <|
      pvv prog (Instr.indexAt 119 as_0 t_5) w fun t_10 w =>
      efu prog (Instr.storeAt 4 t_10 (.bool true)) w fun u_11 w =>
      pvv prog (binOp .add 3 i_1 (.int .i64 1)) w fun t_12 w =>
      again_2 [t_12] w) <|
    ldv prog (Instr.loadAt 119 as_0) w fun t_13 w =>
    efu prog (Instr.storeAt 119 as_0 t_13) w fun u_14 w =>
    ∃ r_15, (do loadVar 119 (← asAddr as_0)).run prog w = .ok r_15 w ∧ K (.tuple #[r_15, (.bool true)]) w) [(.int .i64 0)] w
theorem B76_eq (chars_p0 : Value) (w : World) (K : Value → World → Prop) : denFn prog Tryd.f76 T76 [chars_p0] w K = B76 chars_p0 w K := by kernel_rfl
theorem c76 {chars_p0 : Value} {w : World} {K : Value → World → Prop} (h : B76 chars_p0 w K) : Calls prog 76 #[chars_p0] w (Ret K) :=
  denFn_calls Tryd.func76 T76_ok (Eq.mpr (B76_eq chars_p0 w K) h)

-- 118 slices.order2Ordered[int]
def T118 : Ann := (.seq .none (.seq (.seq (.draw [.op 0 .pure, .op 1 .pure, .op 2 .pure, .op 4 .pure, .op 5 .pure, .op 6 .pure, .op 3 .load, .op 7 .load, .op 8 .eff]) (.seq (.seq .none (.seq .none .none)) .none)) (.seq .none .none)))
theorem T118_ok : chkFn prog Tryd.f118 T118 = true := by kernel_rfl
def B118 (data_p0 a_p1 b_p2 swaps_p3 : Value) (w : World) (K : Value → World → Prop) : Prop :=
  dr w fun w =>
  pvv prog (Instr.indexAt 41 data_p0 b_p2) w fun t_0 w =>
  pvv prog (Instr.indexAt 41 data_p0 a_p1) w fun t_1 w =>
  bindS (vN (Instr.loadAt 3 t_0)) fun m_3 => ldv prog (Instr.loadAt 3 t_0) w fun t_2 w =>
  bindS (vN (Instr.loadAt 3 t_1)) fun m_5 => ldv prog (Instr.loadAt 3 t_1) w fun t_4 w =>
  Calls prog 102 #[t_2, t_4] w (Ret fun t_6 w =>
  cd t_6 (
    pv prog (oNil swaps_p3) w fun t_7 w =>
    ldv prog (Instr.loadAt 3 t_7) w fun t_8 w =>
    pvv prog (binOp .add 3 t_8 (.int .i64 1)) w fun t_9 w =>
    pv prog (oNil swaps_p3) w fun t_10 w =>
    efu prog (Instr.storeAt 3 t_10 t_9) w fun u_11 w =>
    K (.tuple #[b_p2, a_p1]) w) <|
  K (.tuple #[a_p1, b_p2]) w)
theorem B118_eq (data_p0 a_p1 b_p2 swaps_p3 : Value) (w : World) (K : Value → World → Prop) : denFn prog Tryd.f118 T118 [data_p0, a_p1, b_p2, swaps_p3] w K = B118 data_p0 a_p1 b_p2 swaps_p3 w K := by kernel_rfl
theorem c118 {data_p0 a_p1 b_p2 swaps_p3 : Value} {w : World} {K : Value → World → Prop} (h : B118 data_p0 a_p1 b_p2 swaps_p3 w K) : Calls prog 118 #[data_p0, a_p1, b_p2, swaps_p3] w (Ret K) :=
  denFn_calls Tryd.func118 T118_ok (Eq.mpr (B118_eq data_p0 a_p1 b_p2 swaps_p3 w K) h)

-- 59 maps.DeleteFunc[map[int]holdfast/api.Token,int,holdfast/api.Token]
def T59 : Ann := (.seq .none (.block (.loop 524080 [] (.seq .none (.seq (.seq .none .none) (.block (.seq .none (.seq .none (.seq .none .none)))))))))
theorem T59_ok : chkFn prog Tryd.f59 T59 = true := by kernel_rfl
def B59 (m_p0 del_p1 : Value) (w : World) (K : Value → World → Prop) : Prop :=
  efv prog (Instr.range 70 m_p0) w fun t_0 w =>
  lp (fun σ w again_1 => fin σ <|
    efv prog (Instr.next t_0 false 0) w fun t_2 w =>
    pvv prog (Instr.extract t_2 0) w fun t_3 w =>
    cd t_3 (
      efv prog (Instr.entry t_0) w fun t_4 w =>
      pvv prog (Instr.extract t_4 0) w fun t_5 w =>
      pvv prog (Instr.extract t_4 1) w fun t_6 w =>
      efv prog (Instr.alloc 29 true (.tuple #[])) w fun v_7 w =>
      efu prog (Instr.storeAt 29 v_7 t_6) w fun u_8 w =>
      ldv prog (Instr.loadAt 29 v_7) w fun t_9 w =>
      ef prog (oCall del_p1 #[t_5, t_9]) w fun t_10 w =>
      cd t_10 (
        ef prog (oBi .delete #[70, 3] 0 #[false, false] #[m_p0, t_5]) w fun u_11 w =>
        again_1 [] w) <|
      again_1 [] w) <|
    K (.tuple #[]) w) [] w
theorem B59_eq (m_p0 del_p1 : Value) (w : World) (K : Value → World → Prop) : denFn prog Tryd.f59 T59 [m_p0, del_p1] w K = B59 m_p0 del_p1 w K := by kernel_rfl
theorem c59 {m_p0 del_p1 : Value} {w : World} {K : Value → World → Prop} (h : B59 m_p0 del_p1 w K) : Calls prog 59 #[m_p0, del_p1] w (Ret K) :=
  denFn_calls Tryd.func59 T59_ok (Eq.mpr (B59_eq m_p0 del_p1 w K) h)

-- 15 (*holdfast/token.Store).Family
def T15 : Ann := (.seq .none (.seq (.seq .none (.seq (.seq .none .none) .none)) (.seq .none .none)))
theorem T15_ok : chkFn prog Tryd.f15 T15 = true := by kernel_rfl
def B15 (s_p0 id_p1 : Value) (w : World) (K : Value → World → Prop) : Prop :=
  efv prog (Instr.alloc 27 true (.tuple #[])) w fun t_0 w =>
  pvv prog (oEq .eql 22 (.tmp 6) (.const (.pointer none)) s_p0 (.pointer none)) w fun t_1 w =>
  cd t_1 (
    pvv prog (Instr.build 27 #[]) w fun t_2 w =>
    efu prog (Instr.storeAt 27 t_0 t_2) w fun u_3 w =>
    ∃ r_4, (do loadVar 27 (← asAddr t_0)).run prog w = .ok r_4 w ∧ K (.tuple #[r_4, (.int .i64 1)]) w) <|
  pv prog (oNil s_p0) w fun t_5 w =>
  pvv prog (Instr.fieldAt 74 t_5 0) w fun t_6 w =>
  ldv prog (Instr.loadAt 69 t_6) w fun t_7 w =>
  Calls prog 31 #[t_7, id_p1] w (Ret fun t_8 w =>
  pvv prog (Instr.extract t_8 0) w fun t_9 w =>
  pvv prog (Instr.extract t_8 1) w fun t_10 w =>
  efu prog (Instr.storeAt 27 t_0 t_9) w fun u_11 w =>
  ∃ r_12, (do loadVar 27 (← asAddr t_0)).run prog w = .ok r_12 w ∧ K (.tuple #[r_12, t_10]) w)
theorem B15_eq (s_p0 id_p1 : Value) (w : World) (K : Value → World → Prop) : denFn prog Tryd.f15 T15 [s_p0, id_p1] w K = B15 s_p0 id_p1 w K := by kernel_rfl
theorem c15 {s_p0 id_p1 : Value} {w : World} {K : Value → World → Prop} (h : B15 s_p0 id_p1 w K) : Calls prog 15 #[s_p0, id_p1] w (Ret K) :=
  denFn_calls Tryd.func15 T15_ok (Eq.mpr (B15_eq s_p0 id_p1 w K) h)

-- 74 strings.trimLeftByte
def T74 : Ann := (.seq .none (.seq (.block (.loop 65505 [0] (.seq (.seq .none (.seq .none .none)) (.block .none)))) (.seq .none .none)))
theorem T74_ok : chkFn prog Tryd.f74 T74 = true := by kernel_rfl
def B74 (s_p0 c_p1 : Value) (w : World) (K : Value → World → Prop) : Prop :=
  lp (fun σ w again_1 => pop σ fun s_0 σ => fin σ <|
    pv prog (oBi .len #[9] 3 #[false] #[s_0]) w fun t_2 w =>
    pvv prog (binOp .gtr 3 t_2 (.int .i64 0)) w fun t_3 w =>
    gate (some (t_3, true)) (fun K => K s_0 w) w fun t_4 w =>
    gate (some (t_3, true)) (fun K => pvv prog (Instr.index 9 t_4 (.int .i64 0)) w K) w fun t_5 w =>
    gate (some (t_3, true)) (fun K => K c_p1 w) w fun t_6 w =>
    gate (some (t_3, true)) (fun K => pvv prog (oEq .eql 5 (.tmp 10) (.tmp 11) t_5 t_6) w K) w fun t_7 w =>
    pv prog (oPick t_3 t_7 (.bool false)) w fun t_8 w =>
    cd t_8 (
      pvv prog (Instr.sliceAt 9 s_0 (some (.int .i64 1)) none none) w fun t_9 w =>
      again_1 [t_9] w) <|
    K s_0 w) [s_p0] w
theorem B74_eq (s_p0 c_p1 : Value) (w : World) (K : Value → World → Prop) : denFn prog Tryd.f74 T74 [s_p0, c_p1] w K = B74 s_p0 c_p1 w K := by kernel_rfl
theorem c74 {s_p0 c_p1 : Value} {w : World} {K : Value → World → Prop} (h : B74 s_p0 c_p1 w K) : Calls prog 74 #[s_p0, c_p1] w (Ret K) :=
  denFn_calls Tryd.func74 T74_ok (Eq.mpr (B74_eq s_p0 c_p1 w K) h)

-- 85 maps.Keys[map[int]holdfast/api.Session,int,holdfast/api.Session]$1
def T85 : Ann := (.seq .none (.block (.loop 16328 [] (.seq .none (.seq (.seq .none .none) (.block (.seq .none (.seq .none (.seq .none .none)))))))))
theorem T85_ok : chkFn prog Tryd.f85 T85 = true := by kernel_rfl
def B85 (yield_p0 x_p1 : Value) (w : World) (K : Value → World → Prop) : Prop :=
  ldv prog (Instr.loadAt 92 x_p1) w fun t_0 w =>
  efv prog (Instr.range 92 t_0) w fun t_1 w =>
  lp (fun σ w again_2 => fin σ <|
    efv prog (Instr.next t_1 false 0) w fun t_3 w =>
    pvv prog (Instr.extract t_3 0) w fun t_4 w =>
    cd t_4 (
      efv prog (Instr.entry t_1) w fun t_5 w =>
      pvv prog (Instr.extract t_5 0) w fun t_6 w =>
      ef prog (oCall yield_p0 #[t_6]) w fun t_7 w =>
      pvv prog (Op.unary .not t_7) w fun t_8 w =>
      cd t_8 (
        K (.tuple #[]) w) <|
      again_2 [] w) <|
    K (.tuple #[]) w) [] w
theorem B85_eq (yield_p0 x_p1 : Value) (w : World) (K : Value → World → Prop) : denFn prog Tryd.f85 T85 [yield_p0, x_p1] w K = B85 yield_p0 x_p1 w K := by kernel_rfl
theorem c85 {yield_p0 x_p1 : Value} {w : World} {K : Value → World → Prop} (h : B85 yield_p0 x_p1 w K) : Calls prog 85 #[yield_p0, x_p1] w (Ret K) :=
  denFn_calls Tryd.func85 T85_ok (Eq.mpr (B85_eq yield_p0 x_p1 w K) h)

-- 84 holdfast/holdfastref12.in
def T84 : Ann := (.seq .none (.seq (.seq .none (.block (.loop 262128 [5] (.seq (.seq .none (.seq .none .none)) (.seq (.block (.seq .none (.seq (.seq .none .none) .none))) .none))))) (.seq .none .none)))
theorem T84_ok : chkFn prog Tryd.f84 T84 = true := by kernel_rfl
def B84 (l_p0 n_p1 : Value) (w : World) (K : Value → World → Prop) : Prop :=
  lp (fun σ w again_1 => pop σ fun i_0 σ => fin σ <|
    pv prog (oBi .len #[41] 3 #[false] #[l_p0]) w fun t_2 w =>
    pvv prog (binOp .lss 3 i_0 t_2) w fun t_3 w =>
    cd t_3 (
      pvv prog (Instr.indexAt 41 l_p0 i_0) w fun t_4 w =>
      ldv prog (Instr.loadAt 3 t_4) w fun t_5 w =>
      pvv prog (oEq .eql 3 (.tmp 15) (.tmp 16) t_5 n_p1) w fun t_6 w =>
      cd t_6 (
        K (.bool true) w) <|
      pvv prog (binOp .add 3 i_0 (.int .i64 1)) w fun t_7 w =>
      again_1 [t_7] w) <|
    K (.bool false) w) [(.int .i64 0)] w
theorem B84_eq (l_p0 n_p1 : Value) (w : World) (K : Value → World → Prop) : denFn prog Tryd.f84 T84 [l_p0, n_p1] w K = B84 l_p0 n_p1 w K := by kernel_rfl
theorem c84 {l_p0 n_p1 : Value} {w : World} {K : Value → World → Prop} (h : B84 l_p0 n_p1 w K) : Calls prog 84 #[l_p0, n_p1] w (Ret K) :=
  denFn_calls Tryd.func84 T84_ok (Eq.mpr (B84_eq l_p0 n_p1 w K) h)

-- 102 cmp.Less[int]
def T102 : Ann := (.seq .none (.seq .none .none))
theorem T102_ok : chkFn prog Tryd.f102 T102 = true := by kernel_rfl
def B102 (x_p0 y_p1 : Value) (w : World) (K : Value → World → Prop) : Prop :=
  Calls prog 116 #[x_p0] w (Ret fun t_0 w =>
  gate (some (t_0, true)) (fun K => K y_p1 w) w fun t_1 w =>
  gate (some (t_0, true)) (fun K => Calls prog 116 #[t_1] w (Ret K)) w fun t_2 w =>
  gate (some (t_0, true)) (fun K => pvv prog (Op.unary .not t_2) w K) w fun t_3 w =>
  pv prog (oPick t_0 t_3 (.bool false)) w fun t_4 w =>
  gate (some (t_4, false)) (fun K => K x_p0 w) w fun t_5 w =>
  gate (some (t_4, false)) (fun K => K y_p1 w) w fun t_6 w =>
  gate (some (t_4, false)) (fun K => pvv prog (binOp .lss 3 t_5 t_6) w K) w fun t_7 w =>
  pv prog (oPick t_4 (.bool true) t_7) w fun t_8 w =>
  K t_8 w)
theorem B102_eq (x_p0 y_p1 : Value) (w : World) (K : Value → World → Prop) : denFn prog Tryd.f102 T102 [x_p0, y_p1] w K = B102 x_p0 y_p1 w K := by kernel_rfl
theorem c102 {x_p0 y_p1 : Value} {w : World} {K : Value → World → Prop} (h : B102 x_p0 y_p1 w K) : Calls prog 102 #[x_p0, y_p1] w (Ret K) :=
  denFn_calls Tryd.func102 T102_ok (Eq.mpr (B102_eq x_p0 y_p1 w K) h)

-- 10 (*holdfast/token.Store).Families
def T10 : Ann := (.seq .none (.seq (.seq .none (.seq (.seq .none .none) .none)) (.seq .none .none)))
theorem T10_ok : chkFn prog Tryd.f10 T10 = true := by kernel_rfl
def B10 (s_p0 session_p1 : Value) (w : World) (K : Value → World → Prop) : Prop :=
  efv prog (Instr.box 3 session_p1) w fun session_0 w =>
  pvv prog (oEq .eql 22 (.tmp 5) (.const (.pointer none)) s_p0 (.pointer none)) w fun t_1 w =>
  cd t_1 (
    K (.slice none 0 0) w) <|
  pv prog (oNil s_p0) w fun t_2 w =>
  pvv prog (Instr.fieldAt 74 t_2 0) w fun t_3 w =>
  ldv prog (Instr.loadAt 69 t_3) w fun t_4 w =>
  pvv prog (Instr.makeFunc (.func 30) #[] #[session_0]) w fun t_5 w =>
  Calls prog 29 #[t_4, t_5] w (Ret fun t_6 w =>
  K t_6 w)
theorem B10_eq (s_p0 session_p1 : Value) (w : World) (K : Value → World → Prop) : denFn prog Tryd.f10 T10 [s_p0, session_p1] w K = B10 s_p0 session_p1 w K := by kernel_rfl
theorem c10 {s_p0 session_p1 : Value} {w : World} {K : Value → World → Prop} (h : B10 s_p0 session_p1 w K) : Calls prog 10 #[s_p0, session_p1] w (Ret K) :=
  denFn_calls Tryd.func10 T10_ok (Eq.mpr (B10_eq s_p0 session_p1 w K) h)

-- 60 (*holdfast/token.Store).drop$1
def T60 : Ann := (.seq .none (.seq .none .none))
theorem T60_ok : chkFn prog Tryd.f60 T60 = true := by kernel_rfl
def B60 (x_p0 t_p1 x_p2 : Value) (w : World) (K : Value → World → Prop) : Prop :=
  efv prog (Instr.box 29 t_p1) w fun t_0 w =>
  pvv prog (Instr.fieldAt 29 t_0 1) w fun t_1 w =>
  ldv prog (Instr.loadAt 3 t_1) w fun t_2 w =>
  ldv prog (Instr.loadAt 3 x_p2) w fun t_3 w =>
  pvv prog (oEq .eql 3 (.tmp 7) (.tmp 8) t_2 t_3) w fun t_4 w =>
  K t_4 w
theorem B60_eq (x_p0 t_p1 x_p2 : Value) (w : World) (K : Value → World → Prop) : denFn prog Tryd.f60 T60 [x_p0, t_p1, x_p2] w K = B60 x_p0 t_p1 x_p2 w K := by kernel_rfl
theorem c60 {x_p0 t_p1 x_p2 : Value} {w : World} {K : Value → World → Prop} (h : B60 x_p0 t_p1 x_p2 w K) : Calls prog 60 #[x_p0, t_p1, x_p2] w (Ret K) :=
  denFn_calls Tryd.func60 T60_ok (Eq.mpr (B60_eq x_p0 t_p1 x_p2 w K) h)

-- 52 (*holdfast/token.Store).EndSessions$1
def T52 : Ann := (.seq .none (.seq .none .none))
theorem T52_ok : chkFn prog Tryd.f52 T52 = true := by kernel_rfl
def B52 (f_p0 x_p1 : Value) (w : World) (K : Value → World → Prop) : Prop :=
  efv prog (Instr.box 27 f_p0) w fun f_0 w =>
  ldv prog (Instr.loadAt 41 x_p1) w fun t_1 w =>
  pvv prog (Instr.fieldAt 27 f_0 1) w fun t_2 w =>
  ldv prog (Instr.loadAt 3 t_2) w fun t_3 w =>
  Calls prog 53 #[t_1, t_3] w (Ret fun t_4 w =>
  K t_4 w)
theorem B52_eq (f_p0 x_p1 : Value) (w : World) (K : Value → World → Prop) : denFn prog Tryd.f52 T52 [f_p0, x_p1] w K = B52 f_p0 x_p1 w K := by kernel_rfl
theorem c52 {f_p0 x_p1 : Value} {w : World} {K : Value → World → Prop} (h : B52 f_p0 x_p1 w K) : Calls prog 52 #[f_p0, x_p1] w (Ret K) :=
  denFn_calls Tryd.func52 T52_ok (Eq.mpr (B52_eq f_p0 x_p1 w K) h)

-- 27 (holdfast/token.row[holdfast/api.Token]).full
def T27 : Ann := (.seq .none (.seq .none .none))
theorem T27_ok : chkFn prog Tryd.f27 T27 = true := by kernel_rfl
def B27 (r_p0 : Value) (w : World) (K : Value → World → Prop) : Prop :=
  efv prog (Instr.box 72 r_p0) w fun r_0 w =>
  pvv prog (Instr.fieldAt 72 r_0 0) w fun t_1 w =>
  ldv prog (Instr.loadAt 3 t_1) w fun t_2 w =>
  pvv prog (binOp .gtr 3 t_2 (.int .i64 1099511627776)) w fun t_3 w =>
  K t_3 w
theorem B27_eq (r_p0 : Value) (w : World) (K : Value → World → Prop) : denFn prog Tryd.f27 T27 [r_p0] w K = B27 r_p0 w K := by kernel_rfl
theorem c27 {r_p0 : Value} {w : World} {K : Value → World → Prop} (h : B27 r_p0 w K) : Calls prog 27 #[r_p0] w (Ret K) :=
  denFn_calls Tryd.func27 T27_ok (Eq.mpr (B27_eq r_p0 w K) h)

-- 112 slices.nextPowerOfTwo
def T112 : Ann := (.seq .none (.seq .none .none))
theorem T112_ok : chkFn prog Tryd.f112 T112 = true := by kernel_rfl
def B112 (length_p0 : Value) (w : World) (K : Value → World → Prop) : Prop :=
  pvv prog (convert 3 133 length_p0) w fun t_0 w =>
  Calls prog 92 #[t_0] w (Ret fun t_1 w =>
  pvv prog (binOp .shl 133 (.int .u64 1) t_1) w fun t_2 w =>
  K t_2 w)
theorem B112_eq (length_p0 : Value) (w : World) (K : Value → World → Prop) : denFn prog Tryd.f112 T112 [length_p0] w K = B112 length_p0 w K := by kernel_rfl
theorem c112 {length_p0 : Value} {w : World} {K : Value → World → Prop} (h : B112 length_p0 w K) : Calls prog 112 #[length_p0] w (Ret K) :=
  denFn_calls Tryd.func112 T112_ok (Eq.mpr (B112_eq length_p0 w K) h)

-- 40 (*holdfast/holdfastref12.Store).EndSessions
def T40 : Ann := (.seq .none (.seq .none .none))
theorem T40_ok : chkFn prog Tryd.f40 T40 = true := by kernel_rfl
def B40 (s_p0 sessions_p1 : Value) (w : World) (K : Value → World → Prop) : Prop :=
  Calls prog 67 #[s_p0, (.string ⟨#[]⟩), sessions_p1] w (Ret fun t_0 w =>
  K t_0 w)
theorem B40_eq (s_p0 sessions_p1 : Value) (w : World) (K : Value → World → Prop) : denFn prog Tryd.f40 T40 [s_p0, sessions_p1] w K = B40 s_p0 sessions_p1 w K := by kernel_rfl
theorem c40 {s_p0 sessions_p1 : Value} {w : World} {K : Value → World → Prop} (h : B40 s_p0 sessions_p1 w K) : Calls prog 40 #[s_p0, sessions_p1] w (Ret K) :=
  denFn_calls Tryd.func40 T40_ok (Eq.mpr (B40_eq s_p0 sessions_p1 w K) h)

-- 109 internal/bytealg.Cutover
def T109 : Ann := (.seq .none (.seq .none .none))
theorem T109_ok : chkFn prog Tryd.f109 T109 = true := by kernel_rfl
def B109 (n_p0 : Value) (w : World) (K : Value → World → Prop) : Prop :=
  pvv prog (binOp .add 3 n_p0 (.int .i64 16)) w fun t_0 w =>
  pvv prog (binOp .quo 3 t_0 (.int .i64 8)) w fun t_1 w =>
  K t_1 w
theorem B109_eq (n_p0 : Value) (w : World) (K : Value → World → Prop) : denFn prog Tryd.f109 T109 [n_p0] w K = B109 n_p0 w K := by kernel_rfl
theorem c109 {n_p0 : Value} {w : World} {K : Value → World → Prop} (h : B109 n_p0 w K) : Calls prog 109 #[n_p0] w (Ret K) :=
  denFn_calls Tryd.func109 T109_ok (Eq.mpr (B109_eq n_p0 w K) h)

-- 81 slices.Collect[int]
def T81 : Ann := (.seq .none (.seq .none .none))
theorem T81_ok : chkFn prog Tryd.f81 T81 = true := by kernel_rfl
def B81 (seq_p0 : Value) (w : World) (K : Value → World → Prop) : Prop :=
  Calls prog 90 #[(.slice none 0 0), seq_p0] w (Ret fun t_0 w =>
  K t_0 w)
theorem B81_eq (seq_p0 : Value) (w : World) (K : Value → World → Prop) : denFn prog Tryd.f81 T81 [seq_p0] w K = B81 seq_p0 w K := by kernel_rfl
theorem c81 {seq_p0 : Value} {w : World} {K : Value → World → Prop} (h : B81 seq_p0 w K) : Calls prog 81 #[seq_p0] w (Ret K) :=
  denFn_calls Tryd.func81 T81_ok (Eq.mpr (B81_eq seq_p0 w K) h)

-- 116 cmp.isNaN[int]
def T116 : Ann := (.seq .none (.seq .none .none))
theorem T116_ok : chkFn prog Tryd.f116 T116 = true := by kernel_rfl
def B116 (x_p0 : Value) (w : World) (K : Value → World → Prop) : Prop :=
  pvv prog (oEq .neq 3 (.tmp 3) (.tmp 4) x_p0 x_p0) w fun t_0 w =>
  K t_0 w
theorem B116_eq (x_p0 : Value) (w : World) (K : Value → World → Prop) : denFn prog Tryd.f116 T116 [x_p0] w K = B116 x_p0 w K := by kernel_rfl
theorem c116 {x_p0 : Value} {w : World} {K : Value → World → Prop} (h : B116 x_p0 w K) : Calls prog 116 #[x_p0] w (Ret K) :=
  denFn_calls Tryd.func116 T116_ok (Eq.mpr (B116_eq x_p0 w K) h)


end Go.Proofs.YtbcimkjgpplcpaaDoor
