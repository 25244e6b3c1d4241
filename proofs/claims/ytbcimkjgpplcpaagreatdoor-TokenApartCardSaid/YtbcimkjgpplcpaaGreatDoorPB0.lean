import Derived.Test.YtbcimkjgpplcpaaGreatDoorPI
set_option linter.all false
set_option maxRecDepth 100000
namespace Go.Proofs.YtbcimkjgpplcpaaGreatDoor
open Go Hold
-- 9 holdfast/holdfastlaw12.do
def T9 : Ann := (.seq .none (.seq (.seq .none (.block (.seq .none (.seq (.seq .none (.seq .none (.seq .none .none))) (.seq .none (.seq (.seq .none (.seq .none (.seq .none .none))) (.seq .none (.seq (.seq .none (.seq .none (.seq .none .none))) (.seq .none (.seq (.seq .none (.seq .none (.seq .none .none))) (.seq .none (.seq (.seq (.draw [.op 0 .pure, .op 1 .pure, .op 4 .pure, .op 5 .pure, .op 2 .load, .op 6 .load, .op 3 .eff, .op 7 .eff, .op 8 .pure, .op 9 .pure]) .none) (.seq .none (.seq (.seq (.draw [.op 0 .pure, .op 1 .pure, .op 4 .pure, .op 5 .pure, .op 2 .load, .op 6 .load, .op 3 .eff, .op 7 .eff, .op 8 .eff, .op 9 .pure]) .none) (.seq .none (.seq (.seq (.draw [.op 0 .pure, .op 1 .pure, .op 3 .pure, .op 6 .pure, .op 7 .pure, .op 9 .pure, .op 2 .load, .op 4 .load, .op 8 .load, .op 10 .load, .op 5 .eff, .op 11 .eff, .op 12 .eff, .op 13 .pure]) .none) .none)))))))))))))))) (.seq .none (.seq .none (.seq .none .none)))))
theorem T9_ok : chkFn prog Tryz.f9 T9 = true := by kernel_rfl
def B9 (s_p0 r_p1 x_p2 : Value) (w : World) (K : Value → World → Prop) : Prop :=
  efv prog (Instr.box 32 x_p2) w fun x_0 w =>
  pvv prog (Instr.fieldAt 32 x_0 0) w fun t_1 w =>
  ldv prog (Instr.loadAt 3 t_1) w fun t_2 w =>
  pvv prog (oEq .eql 3 (.tmp 32) (.const (.int .i64 0)) t_2 (.int .i64 0)) w fun t_3 w =>
  cd t_3 (
    pvv prog (Instr.fieldAt 32 x_0 1) w fun t_4 w =>
    ldv prog (Instr.loadAt 3 t_4) w fun t_5 w =>
    pvv prog (Instr.fieldAt 32 x_0 4) w fun t_6 w =>
    ldv prog (Instr.loadAt 9 t_6) w fun t_7 w =>
    pvv prog (Instr.fieldAt 32 x_0 5) w fun t_8 w =>
    ldv prog (Instr.loadAt 30 t_8) w fun t_9 w =>
    pvv prog (Instr.fieldAt 32 x_0 3) w fun t_10 w =>
    ldv prog (Instr.loadAt 3 t_10) w fun t_11 w =>
    Calls prog 17 #[s_p0, t_5, t_7, t_9, t_11] w (Ret fun t_12 w =>
    pvv prog (Instr.extract t_12 0) w fun t_13 w =>
    pvv prog (Instr.extract t_12 1) w fun t_14 w =>
    pvv prog (Instr.extract t_12 2) w fun t_15 w =>
    efv prog (Instr.alloc 35 true (.tuple #[])) w fun f_16 w =>
    efv prog (Instr.alloc 49 true (.tuple #[])) w fun t_17 w =>
    efu prog (Instr.storeAt 35 f_16 t_13) w fun u_18 w =>
    efu prog (Instr.storeAt 49 t_17 t_14) w fun u_19 w =>
    pvv prog (Instr.fieldAt 32 x_0 1) w fun t_20 w =>
    ldv prog (Instr.loadAt 3 t_20) w fun t_21 w =>
    pvv prog (Instr.fieldAt 32 x_0 4) w fun t_22 w =>
    ldv prog (Instr.loadAt 9 t_22) w fun t_23 w =>
    pvv prog (Instr.fieldAt 32 x_0 5) w fun t_24 w =>
    ldv prog (Instr.loadAt 30 t_24) w fun t_25 w =>
    pvv prog (Instr.fieldAt 32 x_0 3) w fun t_26 w =>
    ldv prog (Instr.loadAt 3 t_26) w fun t_27 w =>
    Calls prog 23 #[r_p1, t_21, t_23, t_25, t_27] w (Ret fun t_28 w =>
    pvv prog (Instr.extract t_28 0) w fun t_29 w =>
    pvv prog (Instr.extract t_28 1) w fun t_30 w =>
    pvv prog (Instr.extract t_28 2) w fun t_31 w =>
    efv prog (Instr.alloc 35 true (.tuple #[])) w fun g_32 w =>
    efv prog (Instr.alloc 49 true (.tuple #[])) w fun u_33 w =>
    efu prog (Instr.storeAt 35 g_32 t_29) w fun u_34 w =>
    efu prog (Instr.storeAt 49 u_33 t_30) w fun u_35 w =>
    ldv prog (Instr.loadAt 35 f_16) w fun t_36 w =>
    ldv prog (Instr.loadAt 35 g_32) w fun t_37 w =>
    pvv prog (oEq .eql 35 (.tmp 63) (.tmp 64) t_36 t_37) w fun t_38 w =>
    gate (some (t_38, true)) (fun K => ldv prog (Instr.loadAt 49 t_17) w K) w fun t_39 w =>
    gate (some (t_38, true)) (fun K => ldv prog (Instr.loadAt 49 u_33) w K) w fun t_40 w =>
    gate (some (t_38, true)) (fun K => pvv prog (oEq .eql 49 (.tmp 67) (.tmp 68) t_39 t_40) w K) w fun t_41 w =>
    pv prog (oPick t_38 t_41 (.bool false)) w fun t_42 w =>
    gate (some (t_42, true)) (fun K => K t_15 w) w fun t_43 w =>
    gate (some (t_42, true)) (fun K => K t_31 w) w fun t_44 w =>
    gate (some (t_42, true)) (fun K => pvv prog (oEq .eql 36 (.tmp 72) (.tmp 73) t_43 t_44) w K) w fun t_45 w =>
    pv prog (oPick t_42 t_45 (.bool false)) w fun t_46 w =>
    K t_46 w))) <|
  pvv prog (oEq .eql 3 (.tmp 32) (.const (.int .i64 1)) t_2 (.int .i64 1)) w fun t_47 w =>
  cd t_47 (
    pvv prog (Instr.fieldAt 32 x_0 1) w fun t_48 w =>
    ldv prog (Instr.loadAt 3 t_48) w fun t_49 w =>
    pvv prog (Instr.fieldAt 32 x_0 2) w fun t_50 w =>
    ldv prog (Instr.loadAt 3 t_50) w fun t_51 w =>
    pvv prog (Instr.fieldAt 32 x_0 3) w fun t_52 w =>
    ldv prog (Instr.loadAt 3 t_52) w fun t_53 w =>
    Calls prog 18 #[s_p0, t_49, t_51, t_53] w (Ret fun t_54 w =>
    pvv prog (Instr.extract t_54 0) w fun t_55 w =>
    pvv prog (Instr.extract t_54 1) w fun t_56 w =>
    pvv prog (Instr.extract t_54 2) w fun t_57 w =>
    efv prog (Instr.alloc 35 true (.tuple #[])) w fun f_58 w =>
    efv prog (Instr.alloc 49 true (.tuple #[])) w fun t_59 w =>
    efu prog (Instr.storeAt 35 f_58 t_55) w fun u_60 w =>
    efu prog (Instr.storeAt 49 t_59 t_56) w fun u_61 w =>
    pvv prog (Instr.fieldAt 32 x_0 1) w fun t_62 w =>
    ldv prog (Instr.loadAt 3 t_62) w fun t_63 w =>
    pvv prog (Instr.fieldAt 32 x_0 2) w fun t_64 w =>
    ldv prog (Instr.loadAt 3 t_64) w fun t_65 w =>
    pvv prog (Instr.fieldAt 32 x_0 3) w fun t_66 w =>
    ldv prog (Instr.loadAt 3 t_66) w fun t_67 w =>
    Calls prog 24 #[r_p1, t_63, t_65, t_67] w (Ret fun t_68 w =>
    pvv prog (Instr.extract t_68 0) w fun t_69 w =>
    pvv prog (Instr.extract t_68 1) w fun t_70 w =>
    pvv prog (Instr.extract t_68 2) w fun t_71 w =>
    efv prog (Instr.alloc 35 true (.tuple #[])) w fun g_72 w =>
    efv prog (Instr.alloc 49 true (.tuple #[])) w fun u_73 w =>
    efu prog (Instr.storeAt 35 g_72 t_69) w fun u_74 w =>
    efu prog (Instr.storeAt 49 u_73 t_70) w fun u_75 w =>
    ldv prog (Instr.loadAt 35 f_58) w fun t_76 w =>
    ldv prog (Instr.loadAt 35 g_72) w fun t_77 w =>
    pvv prog (oEq .eql 35 (.tmp 102) (.tmp 103) t_76 t_77) w fun t_78 w =>
    gate (some (t_78, true)) (fun K => ldv prog (Instr.loadAt 49 t_59) w K) w fun t_79 w =>
    gate (some (t_78, true)) (fun K => ldv prog (Instr.loadAt 49 u_73) w K) w fun t_80 w =>
    gate (some (t_78, true)) (fun K => pvv prog (oEq .eql 49 (.tmp 106) (.tmp 107) t_79 t_80) w K) w fun t_81 w =>
    pv prog (oPick t_78 t_81 (.bool false)) w fun t_82 w =>
    gate (some (t_82, true)) (fun K => K t_57 w) w fun t_83 w =>
    gate (some (t_82, true)) (fun K => K t_71 w) w fun t_84 w =>
    gate (some (t_82, true)) (fun K => pvv prog (oEq .eql 36 (.tmp 111) (.tmp 112) t_83 t_84) w K) w fun t_85 w =>
    pv prog (oPick t_82 t_85 (.bool false)) w fun t_86 w =>
    K t_86 w))) <|
  pvv prog (oEq .eql 3 (.tmp 32) (.const (.int .i64 2)) t_2 (.int .i64 2)) w fun t_87 w =>
  cd t_87 (
    pvv prog (Instr.fieldAt 32 x_0 1) w fun t_88 w =>
    ldv prog (Instr.loadAt 3 t_88) w fun t_89 w =>
    pvv prog (Instr.fieldAt 32 x_0 3) w fun t_90 w =>
    ldv prog (Instr.loadAt 3 t_90) w fun t_91 w =>
    Calls prog 19 #[s_p0, t_89, t_91] w (Ret fun t_92 w =>
    pvv prog (Instr.extract t_92 0) w fun t_93 w =>
    pvv prog (Instr.extract t_92 1) w fun t_94 w =>
    efv prog (Instr.alloc 49 true (.tuple #[])) w fun t_95 w =>
    efu prog (Instr.storeAt 49 t_95 t_93) w fun u_96 w =>
    pvv prog (Instr.fieldAt 32 x_0 1) w fun t_97 w =>
    ldv prog (Instr.loadAt 3 t_97) w fun t_98 w =>
    pvv prog (Instr.fieldAt 32 x_0 3) w fun t_99 w =>
    ldv prog (Instr.loadAt 3 t_99) w fun t_100 w =>
    Calls prog 25 #[r_p1, t_98, t_100] w (Ret fun t_101 w =>
    pvv prog (Instr.extract t_101 0) w fun t_102 w =>
    pvv prog (Instr.extract t_101 1) w fun t_103 w =>
    efv prog (Instr.alloc 49 true (.tuple #[])) w fun u_104 w =>
    efu prog (Instr.storeAt 49 u_104 t_102) w fun u_105 w =>
    ldv prog (Instr.loadAt 49 t_95) w fun t_106 w =>
    ldv prog (Instr.loadAt 49 u_104) w fun t_107 w =>
    pvv prog (oEq .eql 49 (.tmp 135) (.tmp 136) t_106 t_107) w fun t_108 w =>
    gate (some (t_108, true)) (fun K => K t_94 w) w fun t_109 w =>
    gate (some (t_108, true)) (fun K => K t_103 w) w fun t_110 w =>
    gate (some (t_108, true)) (fun K => pvv prog (oEq .eql 36 (.tmp 139) (.tmp 140) t_109 t_110) w K) w fun t_111 w =>
    pv prog (oPick t_108 t_111 (.bool false)) w fun t_112 w =>
    K t_112 w))) <|
  pvv prog (oEq .eql 3 (.tmp 32) (.const (.int .i64 3)) t_2 (.int .i64 3)) w fun t_113 w =>
  cd t_113 (
    pvv prog (Instr.fieldAt 32 x_0 1) w fun t_114 w =>
    ldv prog (Instr.loadAt 3 t_114) w fun t_115 w =>
    pvv prog (Instr.fieldAt 32 x_0 5) w fun t_116 w =>
    ldv prog (Instr.loadAt 30 t_116) w fun t_117 w =>
    pvv prog (Instr.fieldAt 32 x_0 3) w fun t_118 w =>
    ldv prog (Instr.loadAt 3 t_118) w fun t_119 w =>
    Calls prog 20 #[s_p0, t_115, t_117, t_119] w (Ret fun t_120 w =>
    pvv prog (Instr.extract t_120 0) w fun t_121 w =>
    pvv prog (Instr.extract t_120 1) w fun t_122 w =>
    efv prog (Instr.alloc 49 true (.tuple #[])) w fun t_123 w =>
    efu prog (Instr.storeAt 49 t_123 t_121) w fun u_124 w =>
    pvv prog (Instr.fieldAt 32 x_0 1) w fun t_125 w =>
    ldv prog (Instr.loadAt 3 t_125) w fun t_126 w =>
    pvv prog (Instr.fieldAt 32 x_0 5) w fun t_127 w =>
    ldv prog (Instr.loadAt 30 t_127) w fun t_128 w =>
    pvv prog (Instr.fieldAt 32 x_0 3) w fun t_129 w =>
    ldv prog (Instr.loadAt 3 t_129) w fun t_130 w =>
    Calls prog 26 #[r_p1, t_126, t_128, t_130] w (Ret fun t_131 w =>
    pvv prog (Instr.extract t_131 0) w fun t_132 w =>
    pvv prog (Instr.extract t_131 1) w fun t_133 w =>
    efv prog (Instr.alloc 49 true (.tuple #[])) w fun u_134 w =>
    efu prog (Instr.storeAt 49 u_134 t_132) w fun u_135 w =>
    ldv prog (Instr.loadAt 49 t_123) w fun t_136 w =>
    ldv prog (Instr.loadAt 49 u_134) w fun t_137 w =>
    pvv prog (oEq .eql 49 (.tmp 167) (.tmp 168) t_136 t_137) w fun t_138 w =>
    gate (some (t_138, true)) (fun K => K t_122 w) w fun t_139 w =>
    gate (some (t_138, true)) (fun K => K t_133 w) w fun t_140 w =>
    gate (some (t_138, true)) (fun K => pvv prog (oEq .eql 36 (.tmp 171) (.tmp 172) t_139 t_140) w K) w fun t_141 w =>
    pv prog (oPick t_138 t_141 (.bool false)) w fun t_142 w =>
    K t_142 w))) <|
  pvv prog (oEq .eql 3 (.tmp 32) (.const (.int .i64 4)) t_2 (.int .i64 4)) w fun t_143 w =>
  cd t_143 (
    dr w fun w =>
    pvv prog (Instr.fieldAt 32 x_0 1) w fun t_144 w =>
    pvv prog (Instr.fieldAt 32 x_0 1) w fun t_145 w =>
    bindS (vN (Instr.loadAt 3 t_144)) fun m_147 => ldv prog (Instr.loadAt 3 t_144) w fun t_146 w =>
    bindS (vN (Instr.loadAt 3 t_145)) fun m_149 => ldv prog (Instr.loadAt 3 t_145) w fun t_148 w =>
    Calls prog 22 #[s_p0, t_146] w (Ret fun t_150 w => stay prog none m_149 t_148 w <| 
    Calls prog 27 #[r_p1, t_148] w (Ret fun t_151 w => stay prog none m_147 t_146 w <| 
    pvv prog (oEq .eql 36 (.tmp 180) (.tmp 184) t_150 t_151) w fun t_152 w =>
    K t_152 w))) <|
  pvv prog (oEq .eql 3 (.tmp 32) (.const (.int .i64 5)) t_2 (.int .i64 5)) w fun t_155 w =>
  cd t_155 (
    dr w fun w =>
    pvv prog (Instr.fieldAt 32 x_0 6) w fun t_156 w =>
    pvv prog (Instr.fieldAt 32 x_0 6) w fun t_157 w =>
    bindS (vN (Instr.loadAt 23 t_156)) fun m_159 => ldv prog (Instr.loadAt 23 t_156) w fun t_158 w =>
    bindS (vN (Instr.loadAt 23 t_157)) fun m_161 => ldv prog (Instr.loadAt 23 t_157) w fun t_160 w =>
    Calls prog 13 #[s_p0, t_158] w (Ret fun t_162 w => stay prog none m_161 t_160 w <| 
    Calls prog 29 #[r_p1, t_160] w (Ret fun t_163 w => stay prog none m_159 t_158 w <| 
    Calls prog 28 #[t_162, t_163] w (Ret fun t_164 w => stay prog none m_161 t_160 w <| stay prog none m_159 t_158 w <| 
    K t_164 w)))) <|
  pvv prog (oEq .eql 3 (.tmp 32) (.const (.int .i64 6)) t_2 (.int .i64 6)) w fun t_168 w =>
  cd t_168 (
    dr w fun w =>
    pvv prog (Instr.fieldAt 32 x_0 4) w fun t_169 w =>
    pvv prog (Instr.fieldAt 32 x_0 6) w fun t_170 w =>
    pvv prog (Instr.fieldAt 32 x_0 4) w fun t_171 w =>
    pvv prog (Instr.fieldAt 32 x_0 6) w fun t_172 w =>
    bindS (vN (Instr.loadAt 9 t_169)) fun m_174 => ldv prog (Instr.loadAt 9 t_169) w fun t_173 w =>
    bindS (vN (Instr.loadAt 23 t_170)) fun m_176 => ldv prog (Instr.loadAt 23 t_170) w fun t_175 w =>
    bindS (vN (Instr.loadAt 9 t_171)) fun m_178 => ldv prog (Instr.loadAt 9 t_171) w fun t_177 w =>
    bindS (vN (Instr.loadAt 23 t_172)) fun m_180 => ldv prog (Instr.loadAt 23 t_172) w fun t_179 w =>
    Calls prog 11 #[s_p0, t_173, t_175] w (Ret fun t_181 w => stay prog none m_180 t_179 w <| stay prog none m_178 t_177 w <| 
    Calls prog 30 #[r_p1, t_177, t_179] w (Ret fun t_182 w => stay prog none m_176 t_175 w <| stay prog none m_174 t_173 w <| 
    Calls prog 28 #[t_181, t_182] w (Ret fun t_183 w => stay prog none m_180 t_179 w <| stay prog none m_178 t_177 w <| stay prog none m_176 t_175 w <| stay prog none m_174 t_173 w <| 
    K t_183 w)))) <|
  pvv prog (Instr.fieldAt 32 x_0 3) w fun t_187 w =>
  ldv prog (Instr.loadAt 3 t_187) w fun t_188 w =>
  Calls prog 21 #[s_p0, t_188] w (Ret fun t_189 w =>
  pvv prog (Instr.extract t_189 0) w fun t_190 w =>
  pvv prog (Instr.extract t_189 1) w fun t_191 w =>
  pvv prog (Instr.fieldAt 32 x_0 3) w fun t_192 w =>
  ldv prog (Instr.loadAt 3 t_192) w fun t_193 w =>
  Calls prog 31 #[r_p1, t_193] w (Ret fun t_194 w =>
  pvv prog (Instr.extract t_194 0) w fun t_195 w =>
  pvv prog (Instr.extract t_194 1) w fun t_196 w =>
  pvv prog (oEq .eql 3 (.tmp 226) (.tmp 227) t_190 t_195) w fun t_197 w =>
  gate (some (t_197, true)) (fun K => K t_191 w) w fun t_198 w =>
  gate (some (t_197, true)) (fun K => K t_196 w) w fun t_199 w =>
  gate (some (t_197, true)) (fun K => pvv prog (oEq .eql 36 (.tmp 230) (.tmp 231) t_198 t_199) w K) w fun t_200 w =>
  pv prog (oPick t_197 t_200 (.bool false)) w fun t_201 w =>
  K t_201 w))
theorem B9_eq (s_p0 r_p1 x_p2 : Value) (w : World) (K : Value → World → Prop) : denFn prog Tryz.f9 T9 [s_p0, r_p1, x_p2] w K = B9 s_p0 r_p1 x_p2 w K := by kernel_rfl
theorem c9 {s_p0 r_p1 x_p2 : Value} {w : World} {K : Value → World → Prop} (h : B9 s_p0 r_p1 x_p2 w K) : Calls prog 9 #[s_p0, r_p1, x_p2] w (Ret K) :=
  denFn_calls Tryz.func9 T9_ok (Eq.mpr (B9_eq s_p0 r_p1 x_p2 w K) h)

-- 18 (*holdfast/token.Store).Refresh
def T18 : Ann := (.seq .none (.seq .none (.seq .none (.meet 134154240 [11] (.seq .none (.seq .none .none)) (.meet 4611686018293172224 [11] (.block (.seq .none (.seq .none (.seq .none (.seq .none (.seq .none (.seq (.seq .none (.seq .none .none)) (.seq .none (.seq .none .none))))))))) (.seq (.seq .none (.seq (.seq .none .none) .none)) (.seq .none (.seq (.draw [.op 0 .pure, .op 1 .pure, .op 2 .pure, .op 3 .pure, .op 5 .pure, .op 4 .load, .op 6 .load, .op 7 .eff]) (.seq .none (.seq (.draw [.op 1 .pure, .op 2 .pure, .op 3 .pure, .op 5 .pure, .op 6 .pure, .op 0 .load, .op 4 .load, .op 7 .eff, .op 8 .eff, .op 9 .eff, .op 10 .pure]) .none))))))))))
theorem T18_ok : chkFn prog Tryz.f18 T18 = true := by kernel_rfl
def B18 (s_p0 family_p1 number_p2 now_p3 : Value) (w : World) (K : Value → World → Prop) : Prop :=
  efv prog (Instr.alloc 35 true (.tuple #[])) w fun t_0 w =>
  efv prog (Instr.alloc 49 true (.tuple #[])) w fun t_1 w =>
  Calls prog 47 #[s_p0, now_p3] w (Ret fun t_2 w =>
  efv prog (Instr.alloc 35 true (.tuple #[])) w fun f_3 w =>
  jn (fun σ w => pop σ fun e_4 σ => fin σ <|
    jn (fun σ w => pop σ fun e_5 σ => fin σ <|
      pvv prog (oEq .neq 36 (.tmp 62) (.const (.int .i64 0)) e_5 (.int .i64 0)) w fun t_6 w =>
      cd t_6 (
        pvv prog (Instr.build 35 #[]) w fun t_7 w =>
        pvv prog (Instr.build 49 #[]) w fun t_8 w =>
        efu prog (Instr.storeAt 35 t_0 t_7) w fun u_9 w =>
        efu prog (Instr.storeAt 49 t_1 t_8) w fun u_10 w =>
        ∃ r_11, (do loadVar 35 (← asAddr t_0)).run prog w = .ok r_11 w ∧ ∃ r_12, (do loadVar 49 (← asAddr t_1)).run prog w = .ok r_12 w ∧ K (.tuple #[r_11, r_12, e_5]) w) <|
      pvv prog (Instr.fieldAt 35 f_3 4) w fun t_13 w =>
      ldv prog (Instr.loadAt 3 t_13) w fun t_14 w =>
      pvv prog (binOp .add 3 t_14 (.int .i64 1)) w fun t_15 w =>
      pvv prog (Instr.fieldAt 35 f_3 4) w fun t_16 w =>
      efu prog (Instr.storeAt 3 t_16 t_15) w fun u_17 w =>
      dr w fun w =>
      pv prog (oNil s_p0) w fun t_18 w =>
      pvv prog (Instr.fieldAt 67 t_18 0) w fun t_19 w =>
      pvv prog (Instr.fieldAt 62 t_19 1) w fun t_20 w =>
      bindS (vN (Instr.loadAt 60 t_20)) fun m_22 => ldv prog (Instr.loadAt 60 t_20) w fun t_21 w =>
      bindS (vN (Instr.loadAt 35 f_3)) fun m_24 => ldv prog (Instr.loadAt 35 f_3) w fun t_23 w =>
      efu prog (Instr.mapUpdate 60 t_21 family_p1 t_23) w fun u_25 w =>
      pv prog (oNil s_p0) w fun t_26 w =>
      pvv prog (Instr.fieldAt 67 t_26 2) w fun t_27 w =>
      efu prog (Instr.storeAt 3 t_27 now_p3) w fun u_28 w =>
      dr w fun w =>
      pvv prog (Instr.fieldAt 35 f_3 3) w fun t_29 w =>
      pvv prog (binOp .add 3 now_p3 (.int .i64 50)) w fun t_30 w =>
      bindS (vN (Instr.loadAt 35 f_3)) fun m_32 => ldv prog (Instr.loadAt 35 f_3) w fun t_31 w =>
      bindS (vN (Instr.loadAt 30 t_29)) fun m_34 => ldv prog (Instr.loadAt 30 t_29) w fun t_33 w =>
      Calls prog 51 #[s_p0, family_p1, t_33, t_30] w (Ret fun t_35 w => stay prog none m_32 t_31 w <| 
      efu prog (Instr.storeAt 35 t_0 t_31) w fun u_36 w => stay prog none m_34 t_33 w <| 
      efu prog (Instr.storeAt 49 t_1 t_35) w fun u_37 w =>
      ∃ r_38, (do loadVar 35 (← asAddr t_0)).run prog w = .ok r_38 w ∧ ∃ r_39, (do loadVar 49 (← asAddr t_1)).run prog w = .ok r_39 w ∧ K (.tuple #[r_38, r_39, (.int .i64 0)]) w)) fun k_44 =>
    pvv prog (oEq .neq 36 (.tmp 28) (.const (.int .i64 0)) e_4 (.int .i64 0)) w fun t_45 w =>
    cd t_45 (
      k_44 [e_4] w) <|
    pvv prog (binOp .lss 3 number_p2 (.int .i64 1)) w fun t_46 w =>
    gate (some (t_46, false)) (fun K => K number_p2 w) w fun t_47 w =>
    gate (some (t_46, false)) (fun K => pvv prog (Instr.fieldAt 35 f_3 4) w K) w fun t_48 w =>
    gate (some (t_46, false)) (fun K => ldv prog (Instr.loadAt 3 t_48) w K) w fun t_49 w =>
    gate (some (t_46, false)) (fun K => pvv prog (binOp .gtr 3 t_47 t_49) w K) w fun t_50 w =>
    pv prog (oPick t_46 (.bool true) t_50) w fun t_51 w =>
    cd t_51 (
      k_44 [(.int .i64 10)] w) <|
    pvv prog (Instr.fieldAt 35 f_3 4) w fun t_52 w =>
    ldv prog (Instr.loadAt 3 t_52) w fun t_53 w =>
    pvv prog (binOp .lss 3 number_p2 t_53) w fun t_54 w =>
    cd t_54 (
      Calls prog 52 #[s_p0, family_p1] w (Ret fun t_55 w =>
      pv prog (oNil s_p0) w fun t_56 w =>
      pvv prog (Instr.fieldAt 67 t_56 2) w fun t_57 w =>
      efu prog (Instr.storeAt 3 t_57 now_p3) w fun u_58 w =>
      k_44 [(.int .i64 13)] w)) <|
    pv prog (oNil s_p0) w fun t_59 w =>
    pvv prog (Instr.fieldAt 67 t_59 1) w fun t_60 w =>
    ldv prog (Instr.loadAt 65 t_60) w fun t_61 w =>
    Calls prog 50 #[t_61] w (Ret fun t_62 w =>
    gate (some (t_62, false)) (fun K => pvv prog (Instr.fieldAt 35 f_3 4) w K) w fun t_63 w =>
    gate (some (t_62, false)) (fun K => ldv prog (Instr.loadAt 3 t_63) w K) w fun t_64 w =>
    gate (some (t_62, false)) (fun K => pvv prog (binOp .geq 3 t_64 (.int .i64 1099511627776)) w K) w fun t_65 w =>
    pv prog (oPick t_62 (.bool true) t_65) w fun t_66 w =>
    cd t_66 (
      k_44 [(.int .i64 7)] w) <|
    k_44 [e_4] w)) fun k_67 =>
  pvv prog (oEq .eql 36 (.tmp 16) (.const (.int .i64 0)) t_2 (.int .i64 0)) w fun t_68 w =>
  cd t_68 (
    pv prog (oNil s_p0) w fun t_69 w =>
    pvv prog (Instr.fieldAt 67 t_69 0) w fun t_70 w =>
    ldv prog (Instr.loadAt 62 t_70) w fun t_71 w =>
    Calls prog 37 #[t_71, family_p1] w (Ret fun t_72 w =>
    pvv prog (Instr.extract t_72 0) w fun t_73 w =>
    pvv prog (Instr.extract t_72 1) w fun t_74 w =>
    efu prog (Instr.storeAt 35 f_3 t_73) w fun u_75 w =>
    k_67 [t_74] w)) <|
  k_67 [t_2] w)
theorem B18_eq (s_p0 family_p1 number_p2 now_p3 : Value) (w : World) (K : Value → World → Prop) : denFn prog Tryz.f18 T18 [s_p0, family_p1, number_p2, now_p3] w K = B18 s_p0 family_p1 number_p2 now_p3 w K := by kernel_rfl
theorem c18 {s_p0 family_p1 number_p2 now_p3 : Value} {w : World} {K : Value → World → Prop} (h : B18 s_p0 family_p1 number_p2 now_p3 w K) : Calls prog 18 #[s_p0, family_p1, number_p2, now_p3] w (Ret K) :=
  denFn_calls Tryz.func18 T18_ok (Eq.mpr (B18_eq s_p0 family_p1 number_p2 now_p3 w K) h)

-- 8 holdfast/holdfastlaw12.live
def T8 : Ann := (.seq .none (.seq .none (.seq (.seq .none (.seq (.seq .none .none) .none)) (.seq .none (.seq .none (.seq .none (.seq .none (.seq .none .none))))))))
theorem T8_ok : chkFn prog Tryz.f8 T8 = true := by kernel_rfl
def B8 (w : World) (K : Value → World → Prop) : Prop :=
  Calls prog 6 #[] w (Ret fun t_0 w =>
  pvv prog (oEq .eql 24 (.tmp 14) (.const (.pointer none)) t_0 (.pointer none)) w fun t_1 w =>
  cd t_1 (
    K (.bool false) w) <|
  Calls prog 17 #[t_0, (.int .i64 1), (.string ⟨#[99]⟩), (.int .u8 3), (.int .i64 0)] w (Ret fun t_2 w =>
  pvv prog (Instr.extract t_2 0) w fun t_3 w =>
  pvv prog (Instr.extract t_2 1) w fun t_4 w =>
  pvv prog (Instr.extract t_2 2) w fun t_5 w =>
  efv prog (Instr.alloc 35 true (.tuple #[])) w fun f_6 w =>
  efv prog (Instr.alloc 49 true (.tuple #[])) w fun t_7 w =>
  efu prog (Instr.storeAt 35 f_6 t_3) w fun u_8 w =>
  efu prog (Instr.storeAt 49 t_7 t_4) w fun u_9 w =>
  Calls prog 18 #[t_0, (.int .i64 1), (.int .i64 1), (.int .i64 10)] w (Ret fun t_10 w =>
  pvv prog (Instr.extract t_10 0) w fun t_11 w =>
  pvv prog (Instr.extract t_10 1) w fun t_12 w =>
  pvv prog (Instr.extract t_10 2) w fun t_13 w =>
  efv prog (Instr.alloc 35 true (.tuple #[])) w fun g_14 w =>
  efv prog (Instr.alloc 49 true (.tuple #[])) w fun u_15 w =>
  efu prog (Instr.storeAt 35 g_14 t_11) w fun u_16 w =>
  efu prog (Instr.storeAt 49 u_15 t_12) w fun u_17 w =>
  Calls prog 18 #[t_0, (.int .i64 1), (.int .i64 1), (.int .i64 11)] w (Ret fun t_18 w =>
  pvv prog (Instr.extract t_18 0) w fun t_19 w =>
  pvv prog (Instr.extract t_18 1) w fun t_20 w =>
  pvv prog (Instr.extract t_18 2) w fun t_21 w =>
  efv prog (Instr.alloc 35 true (.tuple #[])) w fun t_22 w =>
  efv prog (Instr.alloc 49 true (.tuple #[])) w fun t_23 w =>
  efu prog (Instr.storeAt 35 t_22 t_19) w fun u_24 w =>
  efu prog (Instr.storeAt 49 t_23 t_20) w fun u_25 w =>
  Calls prog 19 #[t_0, (.int .i64 2), (.int .i64 11)] w (Ret fun t_26 w =>
  pvv prog (Instr.extract t_26 0) w fun t_27 w =>
  pvv prog (Instr.extract t_26 1) w fun t_28 w =>
  efv prog (Instr.alloc 49 true (.tuple #[])) w fun t_29 w =>
  efu prog (Instr.storeAt 49 t_29 t_27) w fun u_30 w =>
  pvv prog (oEq .eql 36 (.tmp 39) (.const (.int .i64 0)) t_5 (.int .i64 0)) w fun t_31 w =>
  gate (some (t_31, true)) (fun K => pvv prog (Instr.fieldAt 35 f_6 0) w K) w fun t_32 w =>
  gate (some (t_31, true)) (fun K => ldv prog (Instr.loadAt 3 t_32) w K) w fun t_33 w =>
  gate (some (t_31, true)) (fun K => pvv prog (oEq .eql 3 (.tmp 43) (.const (.int .i64 1)) t_33 (.int .i64 1)) w K) w fun t_34 w =>
  pv prog (oPick t_31 t_34 (.bool false)) w fun t_35 w =>
  gate (some (t_35, true)) (fun K => pvv prog (Instr.fieldAt 49 t_7 3) w K) w fun t_36 w =>
  gate (some (t_35, true)) (fun K => ldv prog (Instr.loadAt 3 t_36) w K) w fun t_37 w =>
  gate (some (t_35, true)) (fun K => pvv prog (oEq .eql 3 (.tmp 48) (.const (.int .i64 50)) t_37 (.int .i64 50)) w K) w fun t_38 w =>
  pv prog (oPick t_35 t_38 (.bool false)) w fun t_39 w =>
  gate (some (t_39, true)) (fun K => K t_13 w) w fun t_40 w =>
  gate (some (t_39, true)) (fun K => pvv prog (oEq .eql 36 (.tmp 52) (.const (.int .i64 0)) t_40 (.int .i64 0)) w K) w fun t_41 w =>
  pv prog (oPick t_39 t_41 (.bool false)) w fun t_42 w =>
  gate (some (t_42, true)) (fun K => pvv prog (Instr.fieldAt 35 g_14 4) w K) w fun t_43 w =>
  gate (some (t_42, true)) (fun K => ldv prog (Instr.loadAt 3 t_43) w K) w fun t_44 w =>
  gate (some (t_42, true)) (fun K => pvv prog (oEq .eql 3 (.tmp 57) (.const (.int .i64 2)) t_44 (.int .i64 2)) w K) w fun t_45 w =>
  pv prog (oPick t_42 t_45 (.bool false)) w fun t_46 w =>
  gate (some (t_46, true)) (fun K => pvv prog (Instr.fieldAt 49 u_15 0) w K) w fun t_47 w =>
  gate (some (t_46, true)) (fun K => ldv prog (Instr.loadAt 3 t_47) w K) w fun t_48 w =>
  gate (some (t_46, true)) (fun K => pvv prog (oEq .eql 3 (.tmp 62) (.const (.int .i64 2)) t_48 (.int .i64 2)) w K) w fun t_49 w =>
  pv prog (oPick t_46 t_49 (.bool false)) w fun t_50 w =>
  gate (some (t_50, true)) (fun K => K t_21 w) w fun t_51 w =>
  gate (some (t_50, true)) (fun K => pvv prog (oEq .eql 36 (.tmp 66) (.const (.int .i64 13)) t_51 (.int .i64 13)) w K) w fun t_52 w =>
  pv prog (oPick t_50 t_52 (.bool false)) w fun t_53 w =>
  gate (some (t_53, true)) (fun K => K t_28 w) w fun t_54 w =>
  gate (some (t_53, true)) (fun K => pvv prog (oEq .eql 36 (.tmp 70) (.const (.int .i64 12)) t_54 (.int .i64 12)) w K) w fun t_55 w =>
  pv prog (oPick t_53 t_55 (.bool false)) w fun t_56 w =>
  K t_56 w)))))
theorem B8_eq (w : World) (K : Value → World → Prop) : denFn prog Tryz.f8 T8 [] w K = B8  w K := by kernel_rfl
theorem c8 {w : World} {K : Value → World → Prop} (h : B8  w K) : Calls prog 8 #[] w (Ret K) :=
  denFn_calls Tryz.func8 T8_ok (Eq.mpr (B8_eq  w K) h)

-- 111 slices.insertionSortOrdered[int]
def T111 : Ann := (.seq .none (.block (.loop 562949953420480 [6] (.seq (.seq .none (.seq .none .none)) (.seq (.block (.seq .none (.block (.loop 562949953355904 [7] (.seq (.seq (.draw [.op 0 .pure, .op 1 .pure, .op 2 .pure, .op 3 .pure, .op 4 .pure, .op 5 .pure, .op 6 .pure, .op 8 .pure, .op 9 .pure, .op 10 .pure, .op 11 .pure, .op 7 .load, .op 12 .load, .op 13 .eff, .op 14 .pure]) (.seq .none .none)) (.seq (.block (.draw [.op 0 .pure, .op 1 .pure, .op 2 .pure, .op 3 .pure, .op 4 .pure, .op 5 .pure, .op 6 .pure, .op 7 .pure, .op 8 .pure, .op 10 .pure, .op 11 .pure, .op 12 .pure, .op 9 .load, .op 13 .load, .op 14 .pure, .op 15 .eff, .op 16 .pure, .op 17 .eff])) .none)))))) .none)))))
theorem T111_ok : chkFn prog Tryz.f111 T111 = true := by kernel_rfl
def B111 (data_p0 a_p1 b_p2 : Value) (w : World) (K : Value → World → Prop) : Prop :=
  pvv prog (binOp .add 3 a_p1 (.int .i64 1)) w fun t_0 w =>
  lp (fun σ w again_2 => pop σ fun i_1 σ => fin σ <|
    pvv prog (binOp .lss 3 i_1 b_p2) w fun t_3 w =>
    cd t_3 (
      lp (fun σ w again_5 => pop σ fun j_4 σ => fin σ <|
        dr w fun w =>
        pvv prog (binOp .gtr 3 j_4 a_p1) w fun t_6 w =>
        gate (some (t_6, true)) (fun K => K data_p0 w) w fun t_7 w =>
        gate (some (t_6, true)) (fun K => K j_4 w) w fun t_8 w =>
        gate (some (t_6, true)) (fun K => pvv prog (Instr.indexAt 23 t_7 t_8) w K) w fun t_9 w =>
        gate (some (t_6, true)) (fun K => K data_p0 w) w fun t_10 w =>
        gate (some (t_6, true)) (fun K => K j_4 w) w fun t_11 w =>
        gate (some (t_6, true)) (fun K => pvv prog (binOp .sub 3 t_11 (.int .i64 1)) w K) w fun t_12 w =>
        gate (some (t_6, true)) (fun K => pvv prog (Instr.indexAt 23 t_10 t_12) w K) w fun t_13 w =>
        bindS (vN (Instr.loadAt 3 t_9)) fun m_15 => gate (some (t_6, true)) (fun K => ldv prog (Instr.loadAt 3 t_9) w K) w fun t_14 w =>
        bindS (vN (Instr.loadAt 3 t_13)) fun m_17 => gate (some (t_6, true)) (fun K => ldv prog (Instr.loadAt 3 t_13) w K) w fun t_16 w =>
        gate (some (t_6, true)) (fun K => Calls prog 117 #[t_14, t_16] w (Ret fun s_36 w => K s_36 w)) w fun t_18 w =>
        pv prog (oPick t_6 t_18 (.bool false)) w fun t_19 w =>
        cd t_19 (
          dr w fun w =>
          pvv prog (binOp .sub 3 j_4 (.int .i64 1)) w fun t_20 w =>
          pvv prog (binOp .sub 3 j_4 (.int .i64 1)) w fun t_21 w =>
          pvv prog (Instr.indexAt 23 data_p0 t_21) w fun t_22 w =>
          pvv prog (Instr.indexAt 23 data_p0 j_4) w fun t_23 w =>
          bindS (vN (Instr.loadAt 3 t_22)) fun m_25 => ldv prog (Instr.loadAt 3 t_22) w fun t_24 w =>
          bindS (vN (Instr.loadAt 3 t_23)) fun m_27 => ldv prog (Instr.loadAt 3 t_23) w fun t_26 w =>
          pvv prog (Instr.indexAt 23 data_p0 j_4) w fun t_28 w =>
          efu prog (Instr.storeAt 3 t_28 t_24) w fun u_29 w =>
          pvv prog (Instr.indexAt 23 data_p0 t_20) w fun t_30 w =>
          efu prog (Instr.storeAt 3 t_30 t_26) w fun u_31 w =>
          pvv prog (binOp .sub 3 j_4 (.int .i64 1)) w fun t_32 w =>
          again_5 [t_32] w) <|
        pvv prog (binOp .add 3 i_1 (.int .i64 1)) w fun t_35 w =>
        again_2 [t_35] w) [i_1] w) <|
    K (.tuple #[]) w) [t_0] w
theorem B111_eq (data_p0 a_p1 b_p2 : Value) (w : World) (K : Value → World → Prop) : denFn prog Tryz.f111 T111 [data_p0, a_p1, b_p2] w K = B111 data_p0 a_p1 b_p2 w K := by kernel_rfl
theorem c111 {data_p0 a_p1 b_p2 : Value} {w : World} {K : Value → World → Prop} (h : B111 data_p0 a_p1 b_p2 w K) : Calls prog 111 #[data_p0, a_p1, b_p2] w (Ret K) :=
  denFn_calls Tryz.func111 T111_ok (Eq.mpr (B111_eq data_p0 a_p1 b_p2 w K) h)

-- 20 (*holdfast/token.Store).Exchange
def T20 : Ann := (.seq .none (.seq .none (.seq (.block (.seq .none (.seq (.seq .none .none) (.seq .none (.seq (.seq .none .none) (.seq .none (.seq (.seq .none .none) .none))))))) (.seq .none (.seq .none .none)))))
theorem T20_ok : chkFn prog Tryz.f20 T20 = true := by kernel_rfl
def B20 (s_p0 id_p1 scopes_p2 now_p3 : Value) (w : World) (K : Value → World → Prop) : Prop :=
  efv prog (Instr.alloc 49 true (.tuple #[])) w fun t_0 w =>
  Calls prog 19 #[s_p0, id_p1, now_p3] w (Ret fun t_1 w =>
  pvv prog (Instr.extract t_1 0) w fun t_2 w =>
  pvv prog (Instr.extract t_1 1) w fun t_3 w =>
  efv prog (Instr.alloc 49 true (.tuple #[])) w fun t_4 w =>
  efu prog (Instr.storeAt 49 t_4 t_2) w fun u_5 w =>
  pvv prog (oEq .neq 36 (.tmp 20) (.const (.int .i64 0)) t_3 (.int .i64 0)) w fun t_6 w =>
  cd t_6 (
    pvv prog (Instr.build 49 #[]) w fun t_7 w =>
    efu prog (Instr.storeAt 49 t_0 t_7) w fun u_8 w =>
    ∃ r_9, (do loadVar 49 (← asAddr t_0)).run prog w = .ok r_9 w ∧ K (.tuple #[r_9, t_3]) w) <|
  pvv prog (Instr.fieldAt 49 t_4 2) w fun t_10 w =>
  ldv prog (Instr.loadAt 30 t_10) w fun t_11 w =>
  pvv prog (binOp .andNot 30 scopes_p2 t_11) w fun t_12 w =>
  pvv prog (oEq .neq 30 (.tmp 28) (.const (.int .u8 0)) t_12 (.int .u8 0)) w fun t_13 w =>
  cd t_13 (
    pvv prog (Instr.build 49 #[]) w fun t_14 w =>
    efu prog (Instr.storeAt 49 t_0 t_14) w fun u_15 w =>
    ∃ r_16, (do loadVar 49 (← asAddr t_0)).run prog w = .ok r_16 w ∧ K (.tuple #[r_16, (.int .i64 14)]) w) <|
  pv prog (oNil s_p0) w fun t_17 w =>
  pvv prog (Instr.fieldAt 67 t_17 1) w fun t_18 w =>
  ldv prog (Instr.loadAt 65 t_18) w fun t_19 w =>
  Calls prog 50 #[t_19] w (Ret fun t_20 w =>
  cd t_20 (
    pvv prog (Instr.build 49 #[]) w fun t_21 w =>
    efu prog (Instr.storeAt 49 t_0 t_21) w fun u_22 w =>
    ∃ r_23, (do loadVar 49 (← asAddr t_0)).run prog w = .ok r_23 w ∧ K (.tuple #[r_23, (.int .i64 7)]) w) <|
  pv prog (oNil s_p0) w fun t_24 w =>
  pvv prog (Instr.fieldAt 67 t_24 2) w fun t_25 w =>
  efu prog (Instr.storeAt 3 t_25 now_p3) w fun u_26 w =>
  pvv prog (Instr.fieldAt 49 t_4 1) w fun t_27 w =>
  ldv prog (Instr.loadAt 3 t_27) w fun t_28 w =>
  pvv prog (Instr.fieldAt 49 t_4 3) w fun t_29 w =>
  ldv prog (Instr.loadAt 3 t_29) w fun t_30 w =>
  Calls prog 51 #[s_p0, t_28, scopes_p2, t_30] w (Ret fun t_31 w =>
  efu prog (Instr.storeAt 49 t_0 t_31) w fun u_32 w =>
  ∃ r_33, (do loadVar 49 (← asAddr t_0)).run prog w = .ok r_33 w ∧ K (.tuple #[r_33, (.int .i64 0)]) w)))
theorem B20_eq (s_p0 id_p1 scopes_p2 now_p3 : Value) (w : World) (K : Value → World → Prop) : denFn prog Tryz.f20 T20 [s_p0, id_p1, scopes_p2, now_p3] w K = B20 s_p0 id_p1 scopes_p2 now_p3 w K := by kernel_rfl
theorem c20 {s_p0 id_p1 scopes_p2 now_p3 : Value} {w : World} {K : Value → World → Prop} (h : B20 s_p0 id_p1 scopes_p2 now_p3 w K) : Calls prog 20 #[s_p0, id_p1, scopes_p2, now_p3] w (Ret K) :=
  denFn_calls Tryz.func20 T20_ok (Eq.mpr (B20_eq s_p0 id_p1 scopes_p2 now_p3 w K) h)

-- 57 (*holdfast/holdfastref12.Store).Families
def T57 : Ann := (.seq .none (.seq .none (.seq (.seq .none (.block (.loop 1099511627744 [5, 6] (.seq (.seq .none (.seq .none .none)) (.meet 1099510579232 [5] (.block (.seq .none (.seq .none .none))) .none))))) (.seq .none .none))))
theorem T57_ok : chkFn prog Tryz.f57 T57 = true := by kernel_rfl
def B57 (s_p0 session_p1 : Value) (w : World) (K : Value → World → Prop) : Prop :=
  lp (fun σ w again_2 => pop σ fun out_0 σ => pop σ fun i_1 σ => fin σ <|
    pvv prog (oEq .neq 26 (.tmp 7) (.const (.pointer none)) s_p0 (.pointer none)) w fun t_3 w =>
    gate (some (t_3, true)) (fun K => K i_1 w) w fun t_4 w =>
    gate (some (t_3, true)) (fun K => K s_p0 w) w fun t_5 w =>
    gate (some (t_3, true)) (fun K => pv prog (oNil t_5) w K) w fun t_6 w =>
    gate (some (t_3, true)) (fun K => pvv prog (Instr.fieldAt 69 t_6 3) w K) w fun t_7 w =>
    gate (some (t_3, true)) (fun K => ldv prog (Instr.loadAt 43 t_7) w K) w fun t_8 w =>
    gate (some (t_3, true)) (fun K => pv prog (oBi .len #[43] 3 #[false] #[t_8]) w K) w fun t_9 w =>
    gate (some (t_3, true)) (fun K => pvv prog (binOp .lss 3 t_4 t_9) w K) w fun t_10 w =>
    pv prog (oPick t_3 t_10 (.bool false)) w fun t_11 w =>
    cd t_11 (
      jn (fun σ w => pop σ fun out_12 σ => fin σ <|
        pvv prog (binOp .add 3 i_1 (.int .i64 1)) w fun t_13 w =>
        again_2 [out_12, t_13] w) fun k_14 =>
      pv prog (oNil s_p0) w fun t_15 w =>
      pvv prog (Instr.fieldAt 69 t_15 3) w fun t_16 w =>
      ldv prog (Instr.loadAt 43 t_16) w fun t_17 w =>
      pvv prog (Instr.indexAt 43 t_17 i_1) w fun t_18 w =>
      pvv prog (Instr.fieldAt 35 t_18 1) w fun t_19 w =>
      ldv prog (Instr.loadAt 3 t_19) w fun t_20 w =>
      pvv prog (oEq .eql 3 (.tmp 27) (.tmp 28) t_20 session_p1) w fun t_21 w =>
      cd t_21 (
        pv prog (oNil s_p0) w fun t_22 w =>
        pvv prog (Instr.fieldAt 69 t_22 3) w fun t_23 w =>
        ldv prog (Instr.loadAt 43 t_23) w fun t_24 w =>
        pvv prog (Instr.indexAt 43 t_24 i_1) w fun t_25 w =>
        ldv prog (Instr.loadAt 35 t_25) w fun t_26 w =>
        efv prog (Instr.buildSlice 43 1 #[(0, t_26)]) w fun t_27 w =>
        ef prog (oBi .append #[43, 43] 43 #[false, false] #[out_0, t_27]) w fun t_28 w =>
        k_14 [t_28] w) <|
      k_14 [out_0] w) <|
    K out_0 w) [(.slice none 0 0), (.int .i64 0)] w
theorem B57_eq (s_p0 session_p1 : Value) (w : World) (K : Value → World → Prop) : denFn prog Tryz.f57 T57 [s_p0, session_p1] w K = B57 s_p0 session_p1 w K := by kernel_rfl
theorem c57 {s_p0 session_p1 : Value} {w : World} {K : Value → World → Prop} (h : B57 s_p0 session_p1 w K) : Calls prog 57 #[s_p0, session_p1] w (Ret K) :=
  denFn_calls Tryz.func57 T57_ok (Eq.mpr (B57_eq s_p0 session_p1 w K) h)

-- 114 slices.choosePivotOrdered[int]
def T114 : Ann := (.seq .none (.seq .none (.seq .none (.seq .none (.seq .none (.seq .none (.meet 562947805944832 [11] (.seq .none (.seq (.meet 17583596116992 [10, 11, 12] (.seq .none (.seq (.seq .none (.seq .none .none)) .none)) .none) .none)) (.seq .none (.block (.seq .none (.seq (.seq .none .none) (.seq .none (.seq (.seq .none .none) (.seq .none .none))))))))))))))
theorem T114_ok : chkFn prog Tryz.f114 T114 = true := by kernel_rfl
def B114 (data_p0 a_p1 b_p2 : Value) (w : World) (K : Value → World → Prop) : Prop :=
  pvv prog (binOp .sub 3 b_p2 a_p1) w fun t_0 w =>
  efv prog (Instr.alloc 3 true (.tuple #[])) w fun swaps_1 w =>
  pvv prog (binOp .quo 3 t_0 (.int .i64 4)) w fun t_2 w =>
  pvv prog (binOp .mul 3 t_2 (.int .i64 1)) w fun t_3 w =>
  pvv prog (binOp .add 3 a_p1 t_3) w fun t_4 w =>
  pvv prog (binOp .quo 3 t_0 (.int .i64 4)) w fun t_5 w =>
  pvv prog (binOp .mul 3 t_5 (.int .i64 2)) w fun t_6 w =>
  pvv prog (binOp .add 3 a_p1 t_6) w fun t_7 w =>
  pvv prog (binOp .quo 3 t_0 (.int .i64 4)) w fun t_8 w =>
  pvv prog (binOp .mul 3 t_8 (.int .i64 3)) w fun t_9 w =>
  pvv prog (binOp .add 3 a_p1 t_9) w fun t_10 w =>
  jn (fun σ w => pop σ fun j_11 σ => fin σ <|
    ldv prog (Instr.loadAt 3 swaps_1) w fun t_12 w =>
    pvv prog (oEq .eql 3 (.tmp 49) (.const (.int .i64 0)) t_12 (.int .i64 0)) w fun t_13 w =>
    cd t_13 (
      K (.tuple #[j_11, (.int .i64 1)]) w) <|
    pvv prog (oEq .eql 3 (.tmp 49) (.const (.int .i64 12)) t_12 (.int .i64 12)) w fun t_14 w =>
    cd t_14 (
      K (.tuple #[j_11, (.int .i64 2)]) w) <|
    K (.tuple #[j_11, (.int .i64 0)]) w) fun k_15 =>
  pvv prog (binOp .geq 3 t_0 (.int .i64 8)) w fun t_16 w =>
  cd t_16 (
    jn (fun σ w => pop σ fun i_17 σ => pop σ fun j_18 σ => pop σ fun k_19 σ => fin σ <|
      Calls prog 131 #[data_p0, i_17, j_18, k_19, swaps_1] w (Ret fun t_20 w =>
      k_15 [t_20] w)) fun k_21 =>
    pvv prog (binOp .geq 3 t_0 (.int .i64 50)) w fun t_22 w =>
    cd t_22 (
      Calls prog 130 #[data_p0, t_4, swaps_1] w (Ret fun t_23 w =>
      Calls prog 130 #[data_p0, t_7, swaps_1] w (Ret fun t_24 w =>
      Calls prog 130 #[data_p0, t_10, swaps_1] w (Ret fun t_25 w =>
      k_21 [t_23, t_24, t_25] w)))) <|
    k_21 [t_4, t_7, t_10] w) <|
  k_15 [t_7] w
theorem B114_eq (data_p0 a_p1 b_p2 : Value) (w : World) (K : Value → World → Prop) : denFn prog Tryz.f114 T114 [data_p0, a_p1, b_p2] w K = B114 data_p0 a_p1 b_p2 w K := by kernel_rfl
theorem c114 {data_p0 a_p1 b_p2 : Value} {w : World} {K : Value → World → Prop} (h : B114 data_p0 a_p1 b_p2 w K) : Calls prog 114 #[data_p0, a_p1, b_p2] w (Ret K) :=
  denFn_calls Tryz.func114 T114_ok (Eq.mpr (B114_eq data_p0 a_p1 b_p2 w K) h)

-- 19 (*holdfast/token.Store).Access
def T19 : Ann := (.seq .none (.seq (.seq .none (.seq .none (.seq (.seq .none .none) .none))) (.seq .none (.seq (.seq .none (.seq (.seq .none .none) .none)) (.seq .none .none)))))
theorem T19_ok : chkFn prog Tryz.f19 T19 = true := by kernel_rfl
def B19 (s_p0 id_p1 now_p2 : Value) (w : World) (K : Value → World → Prop) : Prop :=
  efv prog (Instr.alloc 49 true (.tuple #[])) w fun t_0 w =>
  Calls prog 47 #[s_p0, now_p2] w (Ret fun t_1 w =>
  pvv prog (oEq .neq 36 (.tmp 14) (.const (.int .i64 0)) t_1 (.int .i64 0)) w fun t_2 w =>
  cd t_2 (
    pvv prog (Instr.build 49 #[]) w fun t_3 w =>
    efu prog (Instr.storeAt 49 t_0 t_3) w fun u_4 w =>
    ∃ r_5, (do loadVar 49 (← asAddr t_0)).run prog w = .ok r_5 w ∧ K (.tuple #[r_5, t_1]) w) <|
  pv prog (oNil s_p0) w fun t_6 w =>
  pvv prog (Instr.fieldAt 67 t_6 1) w fun t_7 w =>
  ldv prog (Instr.loadAt 65 t_7) w fun t_8 w =>
  Calls prog 53 #[t_8, id_p1] w (Ret fun t_9 w =>
  pvv prog (Instr.extract t_9 0) w fun t_10 w =>
  pvv prog (Instr.extract t_9 1) w fun t_11 w =>
  efv prog (Instr.alloc 49 true (.tuple #[])) w fun t_12 w =>
  efu prog (Instr.storeAt 49 t_12 t_10) w fun u_13 w =>
  pvv prog (oEq .eql 36 (.tmp 27) (.const (.int .i64 0)) t_11 (.int .i64 0)) w fun t_14 w =>
  gate (some (t_14, true)) (fun K => K now_p2 w) w fun t_15 w =>
  gate (some (t_14, true)) (fun K => pvv prog (Instr.fieldAt 49 t_12 3) w K) w fun t_16 w =>
  gate (some (t_14, true)) (fun K => ldv prog (Instr.loadAt 3 t_16) w K) w fun t_17 w =>
  gate (some (t_14, true)) (fun K => pvv prog (binOp .geq 3 t_15 t_17) w K) w fun t_18 w =>
  pv prog (oPick t_14 t_18 (.bool false)) w fun t_19 w =>
  cd t_19 (
    pvv prog (Instr.build 49 #[]) w fun t_20 w =>
    efu prog (Instr.storeAt 49 t_0 t_20) w fun u_21 w =>
    ∃ r_22, (do loadVar 49 (← asAddr t_0)).run prog w = .ok r_22 w ∧ K (.tuple #[r_22, (.int .i64 12)]) w) <|
  ldv prog (Instr.loadAt 49 t_12) w fun t_23 w =>
  efu prog (Instr.storeAt 49 t_0 t_23) w fun u_24 w =>
  ∃ r_25, (do loadVar 49 (← asAddr t_0)).run prog w = .ok r_25 w ∧ K (.tuple #[r_25, t_11]) w))
theorem B19_eq (s_p0 id_p1 now_p2 : Value) (w : World) (K : Value → World → Prop) : denFn prog Tryz.f19 T19 [s_p0, id_p1, now_p2] w K = B19 s_p0 id_p1 now_p2 w K := by kernel_rfl
theorem c19 {s_p0 id_p1 now_p2 : Value} {w : World} {K : Value → World → Prop} (h : B19 s_p0 id_p1 now_p2 w K) : Calls prog 19 #[s_p0, id_p1, now_p2] w (Ret K) :=
  denFn_calls Tryz.func19 T19_ok (Eq.mpr (B19_eq s_p0 id_p1 now_p2 w K) h)

-- 53 (holdfast/token.row[holdfast/api.Token]).find
def T53 : Ann := (.seq .none (.seq (.seq .none (.seq (.seq .none .none) .none)) (.seq .none (.seq (.seq .none (.seq (.seq .none .none) .none)) (.seq .none .none)))))
theorem T53_ok : chkFn prog Tryz.f53 T53 = true := by kernel_rfl
def B53 (r_p0 id_p1 : Value) (w : World) (K : Value → World → Prop) : Prop :=
  efv prog (Instr.box 65 r_p0) w fun r_0 w =>
  efv prog (Instr.alloc 49 true (.tuple #[])) w fun x_1 w =>
  pvv prog (binOp .lss 3 id_p1 (.int .i64 1)) w fun t_2 w =>
  gate (some (t_2, false)) (fun K => K id_p1 w) w fun t_3 w =>
  gate (some (t_2, false)) (fun K => pvv prog (Instr.fieldAt 65 r_0 0) w K) w fun t_4 w =>
  gate (some (t_2, false)) (fun K => ldv prog (Instr.loadAt 3 t_4) w K) w fun t_5 w =>
  gate (some (t_2, false)) (fun K => pvv prog (binOp .geq 3 t_3 t_5) w K) w fun t_6 w =>
  pv prog (oPick t_2 (.bool true) t_6) w fun t_7 w =>
  cd t_7 (
    ldv prog (Instr.loadAt 49 x_1) w fun t_8 w =>
    efu prog (Instr.storeAt 49 x_1 t_8) w fun u_9 w =>
    ∃ r_10, (do loadVar 49 (← asAddr x_1)).run prog w = .ok r_10 w ∧ K (.tuple #[r_10, (.int .i64 4)]) w) <|
  pvv prog (Instr.fieldAt 65 r_0 1) w fun t_11 w =>
  ldv prog (Instr.loadAt 63 t_11) w fun t_12 w =>
  ldv prog (Instr.lookup 63 t_12 id_p1 true) w fun t_13 w =>
  pvv prog (Instr.extract t_13 0) w fun t_14 w =>
  pvv prog (Instr.extract t_13 1) w fun t_15 w =>
  efu prog (Instr.storeAt 49 x_1 t_14) w fun u_16 w =>
  pvv prog (Op.unary .not t_15) w fun t_17 w =>
  cd t_17 (
    ldv prog (Instr.loadAt 49 x_1) w fun t_18 w =>
    efu prog (Instr.storeAt 49 x_1 t_18) w fun u_19 w =>
    ∃ r_20, (do loadVar 49 (← asAddr x_1)).run prog w = .ok r_20 w ∧ K (.tuple #[r_20, (.int .i64 12)]) w) <|
  ldv prog (Instr.loadAt 49 x_1) w fun t_21 w =>
  efu prog (Instr.storeAt 49 x_1 t_21) w fun u_22 w =>
  ∃ r_23, (do loadVar 49 (← asAddr x_1)).run prog w = .ok r_23 w ∧ K (.tuple #[r_23, (.int .i64 0)]) w
theorem B53_eq (r_p0 id_p1 : Value) (w : World) (K : Value → World → Prop) : denFn prog Tryz.f53 T53 [r_p0, id_p1] w K = B53 r_p0 id_p1 w K := by kernel_rfl
theorem c53 {r_p0 id_p1 : Value} {w : World} {K : Value → World → Prop} (h : B53 r_p0 id_p1 w K) : Calls prog 53 #[r_p0, id_p1] w (Ret K) :=
  denFn_calls Tryz.func53 T53_ok (Eq.mpr (B53_eq r_p0 id_p1 w K) h)

-- 10 (*holdfast/token.Store).Fork
def T10 : Ann := (.seq .none (.seq (.seq .none (.seq (.seq .none .none) .none)) (.seq .none (.seq (.draw [.op 0 .pure, .op 1 .pure, .op 2 .pure, .op 3 .pure, .op 6 .pure, .op 7 .pure, .op 8 .pure, .op 9 .pure, .op 4 .load, .op 10 .load, .op 5 .eff, .op 11 .eff, .op 12 .pure, .op 13 .pure, .op 14 .eff, .op 15 .pure, .op 16 .pure, .op 17 .eff]) (.seq .none .none)))))
theorem T10_ok : chkFn prog Tryz.f10 T10 = true := by kernel_rfl
def B10 (s_p0 : Value) (w : World) (K : Value → World → Prop) : Prop :=
  pvv prog (oEq .eql 24 (.tmp 4) (.const (.pointer none)) s_p0 (.pointer none)) w fun t_0 w =>
  cd t_0 (
    K (.pointer none) w) <|
  pv prog (oNil s_p0) w fun t_1 w =>
  ldv prog (Instr.loadAt 67 t_1) w fun t_2 w =>
  efv prog (Instr.alloc 67 true (.tuple #[])) w fun f_3 w =>
  efu prog (Instr.storeAt 67 f_3 t_2) w fun u_4 w =>
  dr w fun w =>
  pv prog (oNil s_p0) w fun t_5 w =>
  pvv prog (Instr.fieldAt 67 t_5 0) w fun t_6 w =>
  pvv prog (Instr.fieldAt 62 t_6 1) w fun t_7 w =>
  pv prog (oNil s_p0) w fun t_8 w =>
  pvv prog (Instr.fieldAt 67 t_8 1) w fun t_9 w =>
  pvv prog (Instr.fieldAt 65 t_9 1) w fun t_10 w =>
  bindS (vN (Instr.loadAt 60 t_7)) fun m_12 => ldv prog (Instr.loadAt 60 t_7) w fun t_11 w =>
  bindS (vN (Instr.loadAt 63 t_10)) fun m_14 => ldv prog (Instr.loadAt 63 t_10) w fun t_13 w =>
  Calls prog 32 #[t_11] w (Ret fun t_15 w => stay prog none m_14 t_13 w <| 
  Calls prog 33 #[t_13] w (Ret fun t_16 w => stay prog none m_12 t_11 w <| 
  pvv prog (Instr.fieldAt 67 f_3 0) w fun t_17 w =>
  pvv prog (Instr.fieldAt 62 t_17 1) w fun t_18 w =>
  efu prog (Instr.storeAt 60 t_18 t_15) w fun u_19 w =>
  pvv prog (Instr.fieldAt 67 f_3 1) w fun t_20 w =>
  pvv prog (Instr.fieldAt 65 t_20 1) w fun t_21 w =>
  efu prog (Instr.storeAt 63 t_21 t_16) w fun u_22 w =>
  K f_3 w))
theorem B10_eq (s_p0 : Value) (w : World) (K : Value → World → Prop) : denFn prog Tryz.f10 T10 [s_p0] w K = B10 s_p0 w K := by kernel_rfl
theorem c10 {s_p0 : Value} {w : World} {K : Value → World → Prop} (h : B10 s_p0 w K) : Calls prog 10 #[s_p0] w (Ret K) :=
  denFn_calls Tryz.func10 T10_ok (Eq.mpr (B10_eq s_p0 w K) h)

-- 115 slices.reverseRangeOrdered[int]
def T115 : Ann := (.seq .none (.seq .none (.block (.loop 4294965440 [6, 7] (.seq (.seq .none (.seq .none .none)) (.block (.seq (.draw [.op 0 .pure, .op 1 .pure, .op 2 .pure, .op 3 .pure, .op 4 .pure, .op 5 .pure, .op 6 .pure, .op 8 .pure, .op 9 .pure, .op 10 .pure, .op 7 .load, .op 11 .load, .op 12 .pure, .op 13 .eff, .op 14 .pure, .op 15 .eff]) (.seq .none .none))))))))
theorem T115_ok : chkFn prog Tryz.f115 T115 = true := by kernel_rfl
def B115 (data_p0 a_p1 b_p2 : Value) (w : World) (K : Value → World → Prop) : Prop :=
  pvv prog (binOp .sub 3 b_p2 (.int .i64 1)) w fun t_0 w =>
  lp (fun σ w again_3 => pop σ fun i_1 σ => pop σ fun j_2 σ => fin σ <|
    pvv prog (binOp .lss 3 i_1 j_2) w fun t_4 w =>
    cd t_4 (
      dr w fun w =>
      pvv prog (Instr.indexAt 23 data_p0 j_2) w fun t_5 w =>
      pvv prog (Instr.indexAt 23 data_p0 i_1) w fun t_6 w =>
      bindS (vN (Instr.loadAt 3 t_5)) fun m_8 => ldv prog (Instr.loadAt 3 t_5) w fun t_7 w =>
      bindS (vN (Instr.loadAt 3 t_6)) fun m_10 => ldv prog (Instr.loadAt 3 t_6) w fun t_9 w =>
      pvv prog (Instr.indexAt 23 data_p0 i_1) w fun t_11 w =>
      efu prog (Instr.storeAt 3 t_11 t_7) w fun u_12 w =>
      pvv prog (Instr.indexAt 23 data_p0 j_2) w fun t_13 w =>
      efu prog (Instr.storeAt 3 t_13 t_9) w fun u_14 w =>
      pvv prog (binOp .add 3 i_1 (.int .i64 1)) w fun t_15 w =>
      pvv prog (binOp .sub 3 j_2 (.int .i64 1)) w fun t_16 w =>
      again_3 [t_15, t_16] w) <|
    K (.tuple #[]) w) [a_p1, t_0] w
theorem B115_eq (data_p0 a_p1 b_p2 : Value) (w : World) (K : Value → World → Prop) : denFn prog Tryz.f115 T115 [data_p0, a_p1, b_p2] w K = B115 data_p0 a_p1 b_p2 w K := by kernel_rfl
theorem c115 {data_p0 a_p1 b_p2 : Value} {w : World} {K : Value → World → Prop} (h : B115 data_p0 a_p1 b_p2 w K) : Calls prog 115 #[data_p0, a_p1, b_p2] w (Ret K) :=
  denFn_calls Tryz.func115 T115_ok (Eq.mpr (B115_eq data_p0 a_p1 b_p2 w K) h)

-- 92 strings.trimRightByte
def T92 : Ann := (.seq .none (.seq (.block (.loop 4194273 [0] (.seq (.seq .none (.seq .none .none)) (.block .none)))) (.seq .none .none)))
theorem T92_ok : chkFn prog Tryz.f92 T92 = true := by kernel_rfl
def B92 (s_p0 c_p1 : Value) (w : World) (K : Value → World → Prop) : Prop :=
  lp (fun σ w again_1 => pop σ fun s_0 σ => fin σ <|
    pv prog (oBi .len #[9] 3 #[false] #[s_0]) w fun t_2 w =>
    pvv prog (binOp .gtr 3 t_2 (.int .i64 0)) w fun t_3 w =>
    gate (some (t_3, true)) (fun K => K s_0 w) w fun t_4 w =>
    gate (some (t_3, true)) (fun K => K s_0 w) w fun t_5 w =>
    gate (some (t_3, true)) (fun K => pv prog (oBi .len #[9] 3 #[false] #[t_5]) w K) w fun t_6 w =>
    gate (some (t_3, true)) (fun K => pvv prog (binOp .sub 3 t_6 (.int .i64 1)) w K) w fun t_7 w =>
    gate (some (t_3, true)) (fun K => pvv prog (Instr.index 9 t_4 t_7) w K) w fun t_8 w =>
    gate (some (t_3, true)) (fun K => K c_p1 w) w fun t_9 w =>
    gate (some (t_3, true)) (fun K => pvv prog (oEq .eql 5 (.tmp 13) (.tmp 14) t_8 t_9) w K) w fun t_10 w =>
    pv prog (oPick t_3 t_10 (.bool false)) w fun t_11 w =>
    cd t_11 (
      pv prog (oBi .len #[9] 3 #[false] #[s_0]) w fun t_12 w =>
      pvv prog (binOp .sub 3 t_12 (.int .i64 1)) w fun t_13 w =>
      pvv prog (Instr.sliceAt 9 s_0 none (some t_13) none) w fun t_14 w =>
      again_1 [t_14] w) <|
    K s_0 w) [s_p0] w
theorem B92_eq (s_p0 c_p1 : Value) (w : World) (K : Value → World → Prop) : denFn prog Tryz.f92 T92 [s_p0, c_p1] w K = B92 s_p0 c_p1 w K := by kernel_rfl
theorem c92 {s_p0 c_p1 : Value} {w : World} {K : Value → World → Prop} (h : B92 s_p0 c_p1 w K) : Calls prog 92 #[s_p0, c_p1] w (Ret K) :=
  denFn_calls Tryz.func92 T92_ok (Eq.mpr (B92_eq s_p0 c_p1 w K) h)

-- 52 (*holdfast/token.Store).drop
def T52 : Ann := (.seq .none (.seq (.draw [.op 0 .pure, .op 1 .pure, .op 2 .pure, .op 3 .pure, .op 4 .load, .op 5 .load, .op 6 .eff]) .none))
theorem T52_ok : chkFn prog Tryz.f52 T52 = true := by kernel_rfl
def B52 (s_p0 id_p1 : Value) (w : World) (K : Value → World → Prop) : Prop :=
  efv prog (Instr.box 3 id_p1) w fun id_0 w =>
  dr w fun w =>
  pv prog (oNil s_p0) w fun t_1 w =>
  pvv prog (Instr.fieldAt 67 t_1 0) w fun t_2 w =>
  pvv prog (Instr.fieldAt 62 t_2 1) w fun t_3 w =>
  bindS (vN (Instr.loadAt 60 t_3)) fun m_5 => ldv prog (Instr.loadAt 60 t_3) w fun t_4 w =>
  bindS (vN (Instr.loadAt 3 id_0)) fun m_7 => ldv prog (Instr.loadAt 3 id_0) w fun t_6 w =>
  ef prog (oBi .delete #[60, 3] 0 #[false, false] #[t_4, t_6]) w fun u_8 w =>
  pv prog (oNil s_p0) w fun t_9 w =>
  pvv prog (Instr.fieldAt 67 t_9 1) w fun t_10 w =>
  pvv prog (Instr.fieldAt 65 t_10 1) w fun t_11 w =>
  ldv prog (Instr.loadAt 63 t_11) w fun t_12 w =>
  pvv prog (Instr.makeFunc (.func 73) #[] #[id_0]) w fun t_13 w =>
  Calls prog 54 #[t_12, t_13] w (Ret fun t_14 w =>
  K (.tuple #[]) w)
theorem B52_eq (s_p0 id_p1 : Value) (w : World) (K : Value → World → Prop) : denFn prog Tryz.f52 T52 [s_p0, id_p1] w K = B52 s_p0 id_p1 w K := by kernel_rfl
theorem c52 {s_p0 id_p1 : Value} {w : World} {K : Value → World → Prop} (h : B52 s_p0 id_p1 w K) : Calls prog 52 #[s_p0, id_p1] w (Ret K) :=
  denFn_calls Tryz.func52 T52_ok (Eq.mpr (B52_eq s_p0 id_p1 w K) h)

-- 12 (*holdfast/token.Store).Family
def T12 : Ann := (.seq .none (.seq (.seq .none (.seq (.seq .none .none) .none)) (.seq .none .none)))
theorem T12_ok : chkFn prog Tryz.f12 T12 = true := by kernel_rfl
def B12 (s_p0 id_p1 : Value) (w : World) (K : Value → World → Prop) : Prop :=
  efv prog (Instr.alloc 35 true (.tuple #[])) w fun t_0 w =>
  pvv prog (oEq .eql 24 (.tmp 6) (.const (.pointer none)) s_p0 (.pointer none)) w fun t_1 w =>
  cd t_1 (
    pvv prog (Instr.build 35 #[]) w fun t_2 w =>
    efu prog (Instr.storeAt 35 t_0 t_2) w fun u_3 w =>
    ∃ r_4, (do loadVar 35 (← asAddr t_0)).run prog w = .ok r_4 w ∧ K (.tuple #[r_4, (.int .i64 1)]) w) <|
  pv prog (oNil s_p0) w fun t_5 w =>
  pvv prog (Instr.fieldAt 67 t_5 0) w fun t_6 w =>
  ldv prog (Instr.loadAt 62 t_6) w fun t_7 w =>
  Calls prog 37 #[t_7, id_p1] w (Ret fun t_8 w =>
  pvv prog (Instr.extract t_8 0) w fun t_9 w =>
  pvv prog (Instr.extract t_8 1) w fun t_10 w =>
  efu prog (Instr.storeAt 35 t_0 t_9) w fun u_11 w =>
  ∃ r_12, (do loadVar 35 (← asAddr t_0)).run prog w = .ok r_12 w ∧ K (.tuple #[r_12, t_10]) w)
theorem B12_eq (s_p0 id_p1 : Value) (w : World) (K : Value → World → Prop) : denFn prog Tryz.f12 T12 [s_p0, id_p1] w K = B12 s_p0 id_p1 w K := by kernel_rfl
theorem c12 {s_p0 id_p1 : Value} {w : World} {K : Value → World → Prop} (h : B12 s_p0 id_p1 w K) : Calls prog 12 #[s_p0, id_p1] w (Ret K) :=
  denFn_calls Tryz.func12 T12_ok (Eq.mpr (B12_eq s_p0 id_p1 w K) h)

-- 91 strings.trimLeftByte
def T91 : Ann := (.seq .none (.seq (.block (.loop 65505 [0] (.seq (.seq .none (.seq .none .none)) (.block .none)))) (.seq .none .none)))
theorem T91_ok : chkFn prog Tryz.f91 T91 = true := by kernel_rfl
def B91 (s_p0 c_p1 : Value) (w : World) (K : Value → World → Prop) : Prop :=
  lp (fun σ w again_1 => pop σ fun s_0 σ => fin σ <|
    pv prog (oBi .len #[9] 3 #[false] #[s_0]) w fun t_2 w =>
    pvv prog (binOp .gtr 3 t_2 (.int .i64 0)) w fun t_3 w =>
    gate (some (t_3, true)) (fun K => K s_0 w) w fun t_4 w =>
    gate (some (t_3, true)) (fun K => pvv prog (Instr.index 9 t_4 (.int .i64 0)) w K) w fun t_5 w =>
    gate (some (t_3, true)) (fun K => K c_p1 w) w fun t_6 w =>
    gate (some (t_3, true)) (fun K => pvv prog (oEq .eql 5 (.tmp 10) (.tmp 11) t_5 t_6) w K) w fun t_7 w =>
    pv prog (oPick t_3 t_7 (.bool false)) w fun t_8 w =>
    cd t_8 (
      pvv prog (Instr.sliceAt 9 s_0 (some (.int .i64 1)) none none) w fun t_9 w =>
      again_1 [t_9] w) <|
    K s_0 w) [s_p0] w
theorem B91_eq (s_p0 c_p1 : Value) (w : World) (K : Value → World → Prop) : denFn prog Tryz.f91 T91 [s_p0, c_p1] w K = B91 s_p0 c_p1 w K := by kernel_rfl
theorem c91 {s_p0 c_p1 : Value} {w : World} {K : Value → World → Prop} (h : B91 s_p0 c_p1 w K) : Calls prog 91 #[s_p0, c_p1] w (Ret K) :=
  denFn_calls Tryz.func91 T91_ok (Eq.mpr (B91_eq s_p0 c_p1 w K) h)

-- 35 (*holdfast/token.Store).EndClient$1
def T35 : Ann := (.seq .none (.seq .none .none))
theorem T35_ok : chkFn prog Tryz.f35 T35 = true := by kernel_rfl
def B35 (f_p0 x_p1 x_p2 : Value) (w : World) (K : Value → World → Prop) : Prop :=
  efv prog (Instr.box 35 f_p0) w fun f_0 w =>
  pvv prog (Instr.fieldAt 35 f_0 2) w fun t_1 w =>
  ldv prog (Instr.loadAt 9 t_1) w fun t_2 w =>
  ldv prog (Instr.loadAt 9 x_p1) w fun t_3 w =>
  pvv prog (oEq .eql 9 (.tmp 6) (.tmp 7) t_2 t_3) w fun t_4 w =>
  gate (some (t_4, true)) (fun K => ldv prog (Instr.loadAt 23 x_p2) w K) w fun t_5 w =>
  gate (some (t_4, true)) (fun K => pvv prog (Instr.fieldAt 35 f_0 1) w K) w fun t_6 w =>
  gate (some (t_4, true)) (fun K => ldv prog (Instr.loadAt 3 t_6) w K) w fun t_7 w =>
  gate (some (t_4, true)) (fun K => Calls prog 36 #[t_5, t_7] w (Ret K)) w fun t_8 w =>
  pv prog (oPick t_4 t_8 (.bool false)) w fun t_9 w =>
  K t_9 w
theorem B35_eq (f_p0 x_p1 x_p2 : Value) (w : World) (K : Value → World → Prop) : denFn prog Tryz.f35 T35 [f_p0, x_p1, x_p2] w K = B35 f_p0 x_p1 x_p2 w K := by kernel_rfl
theorem c35 {f_p0 x_p1 x_p2 : Value} {w : World} {K : Value → World → Prop} (h : B35 f_p0 x_p1 x_p2 w K) : Calls prog 35 #[f_p0, x_p1, x_p2] w (Ret K) :=
  denFn_calls Tryz.func35 T35_ok (Eq.mpr (B35_eq f_p0 x_p1 x_p2 w K) h)

-- 74 holdfast/holdfastref12.in
def T74 : Ann := (.seq .none (.seq (.seq .none (.block (.loop 262128 [5] (.seq (.seq .none (.seq .none .none)) (.seq (.block (.seq .none (.seq (.seq .none .none) .none))) .none))))) (.seq .none .none)))
theorem T74_ok : chkFn prog Tryz.f74 T74 = true := by kernel_rfl
def B74 (l_p0 n_p1 : Value) (w : World) (K : Value → World → Prop) : Prop :=
  lp (fun σ w again_1 => pop σ fun i_0 σ => fin σ <|
    pv prog (oBi .len #[23] 3 #[false] #[l_p0]) w fun t_2 w =>
    pvv prog (binOp .lss 3 i_0 t_2) w fun t_3 w =>
    cd t_3 (
      pvv prog (Instr.indexAt 23 l_p0 i_0) w fun t_4 w =>
      ldv prog (Instr.loadAt 3 t_4) w fun t_5 w =>
      pvv prog (oEq .eql 3 (.tmp 15) (.tmp 16) t_5 n_p1) w fun t_6 w =>
      cd t_6 (
        K (.bool true) w) <|
      pvv prog (binOp .add 3 i_0 (.int .i64 1)) w fun t_7 w =>
      again_1 [t_7] w) <|
    K (.bool false) w) [(.int .i64 0)] w
theorem B74_eq (l_p0 n_p1 : Value) (w : World) (K : Value → World → Prop) : denFn prog Tryz.f74 T74 [l_p0, n_p1] w K = B74 l_p0 n_p1 w K := by kernel_rfl
theorem c74 {l_p0 n_p1 : Value} {w : World} {K : Value → World → Prop} (h : B74 l_p0 n_p1 w K) : Calls prog 74 #[l_p0, n_p1] w (Ret K) :=
  denFn_calls Tryz.func74 T74_ok (Eq.mpr (B74_eq l_p0 n_p1 w K) h)

-- 143 math/bits.TrailingZeros64
def T143 : Ann := (.seq .none (.seq (.seq .none (.seq (.seq .none .none) .none)) (.seq .none .none)))
theorem T143_ok : chkFn prog Tryz.f143 T143 = true := by kernel_rfl
def B143 (x_p0 : Value) (w : World) (K : Value → World → Prop) : Prop :=
  pvv prog (oEq .eql 123 (.tmp 3) (.const (.int .u64 0)) x_p0 (.int .u64 0)) w fun t_0 w =>
  cd t_0 (
    K (.int .i64 64) w) <|
  pvv prog (Op.unary .neg x_p0) w fun t_1 w =>
  pvv prog (binOp .and 123 x_p0 t_1) w fun t_2 w =>
  pvv prog (binOp .mul 123 t_2 (.int .u64 285870213051353865)) w fun t_3 w =>
  pvv prog (binOp .shr 123 t_3 (.int .u64 58)) w fun t_4 w =>
  pvv prog (Instr.indexAt 173 (.pointer (some ⟨5, 0, none⟩)) t_4) w fun t_5 w =>
  ldv prog (Instr.loadAt 5 t_5) w fun t_6 w =>
  pvv prog (convert 5 3 t_6) w fun t_7 w =>
  K t_7 w
theorem B143_eq (x_p0 : Value) (w : World) (K : Value → World → Prop) : denFn prog Tryz.f143 T143 [x_p0] w K = B143 x_p0 w K := by kernel_rfl
theorem c143 {x_p0 : Value} {w : World} {K : Value → World → Prop} (h : B143 x_p0 w K) : Calls prog 143 #[x_p0] w (Ret K) :=
  denFn_calls Tryz.func143 T143_ok (Eq.mpr (B143_eq x_p0 w K) h)

-- 14 (*holdfast/token.Store).Tokens
def T14 : Ann := (.seq .none (.seq (.seq .none (.seq (.seq .none .none) .none)) (.seq .none .none)))
theorem T14_ok : chkFn prog Tryz.f14 T14 = true := by kernel_rfl
def B14 (s_p0 family_p1 : Value) (w : World) (K : Value → World → Prop) : Prop :=
  efv prog (Instr.box 3 family_p1) w fun family_0 w =>
  pvv prog (oEq .eql 24 (.tmp 5) (.const (.pointer none)) s_p0 (.pointer none)) w fun t_1 w =>
  cd t_1 (
    K (.slice none 0 0) w) <|
  pv prog (oNil s_p0) w fun t_2 w =>
  pvv prog (Instr.fieldAt 67 t_2 1) w fun t_3 w =>
  ldv prog (Instr.loadAt 65 t_3) w fun t_4 w =>
  pvv prog (Instr.makeFunc (.func 40) #[] #[family_0]) w fun t_5 w =>
  Calls prog 39 #[t_4, t_5] w (Ret fun t_6 w =>
  K t_6 w)
theorem B14_eq (s_p0 family_p1 : Value) (w : World) (K : Value → World → Prop) : denFn prog Tryz.f14 T14 [s_p0, family_p1] w K = B14 s_p0 family_p1 w K := by kernel_rfl
theorem c14 {s_p0 family_p1 : Value} {w : World} {K : Value → World → Prop} (h : B14 s_p0 family_p1 w K) : Calls prog 14 #[s_p0, family_p1] w (Ret K) :=
  denFn_calls Tryz.func14 T14_ok (Eq.mpr (B14_eq s_p0 family_p1 w K) h)

-- 33 maps.Clone[map[int]holdfast/api.Token,int,holdfast/api.Token]
def T33 : Ann := (.seq .none (.seq (.seq .none (.seq (.seq .none .none) .none)) (.seq .none .none)))
theorem T33_ok : chkFn prog Tryz.f33 T33 = true := by kernel_rfl
def B33 (m_p0 : Value) (w : World) (K : Value → World → Prop) : Prop :=
  pvv prog (oEq .eql 63 (.tmp 3) (.const (.map none)) m_p0 (.map none)) w fun t_0 w =>
  cd t_0 (
    K (.map none) w) <|
  pvv prog (Instr.makeInterface 63 m_p0) w fun t_1 w =>
  ef prog (oCall (.func (.func 63) #[] #[]) #[t_1]) w fun t_2 w =>
  efv prog (Instr.typeAssert t_2 20 63 false) w fun t_3 w =>
  K t_3 w
theorem B33_eq (m_p0 : Value) (w : World) (K : Value → World → Prop) : denFn prog Tryz.f33 T33 [m_p0] w K = B33 m_p0 w K := by kernel_rfl
theorem c33 {m_p0 : Value} {w : World} {K : Value → World → Prop} (h : B33 m_p0 w K) : Calls prog 33 #[m_p0] w (Ret K) :=
  denFn_calls Tryz.func33 T33_ok (Eq.mpr (B33_eq m_p0 w K) h)

-- 42 (*holdfast/token.Store).Families$1
def T42 : Ann := (.seq .none (.seq .none .none))
theorem T42_ok : chkFn prog Tryz.f42 T42 = true := by kernel_rfl
def B42 (f_p0 x_p1 : Value) (w : World) (K : Value → World → Prop) : Prop :=
  efv prog (Instr.box 35 f_p0) w fun f_0 w =>
  pvv prog (Instr.fieldAt 35 f_0 1) w fun t_1 w =>
  ldv prog (Instr.loadAt 3 t_1) w fun t_2 w =>
  ldv prog (Instr.loadAt 3 x_p1) w fun t_3 w =>
  pvv prog (oEq .eql 3 (.tmp 5) (.tmp 6) t_2 t_3) w fun t_4 w =>
  K t_4 w
theorem B42_eq (f_p0 x_p1 : Value) (w : World) (K : Value → World → Prop) : denFn prog Tryz.f42 T42 [f_p0, x_p1] w K = B42 f_p0 x_p1 w K := by kernel_rfl
theorem c42 {f_p0 x_p1 : Value} {w : World} {K : Value → World → Prop} (h : B42 f_p0 x_p1 w K) : Calls prog 42 #[f_p0, x_p1] w (Ret K) :=
  denFn_calls Tryz.func42 T42_ok (Eq.mpr (B42_eq f_p0 x_p1 w K) h)

-- 13 (*holdfast/token.Store).EndSessions
def T13 : Ann := (.seq .none (.seq .none .none))
theorem T13_ok : chkFn prog Tryz.f13 T13 = true := by kernel_rfl
def B13 (s_p0 sessions_p1 : Value) (w : World) (K : Value → World → Prop) : Prop :=
  efv prog (Instr.box 23 sessions_p1) w fun sessions_0 w =>
  pvv prog (Instr.makeFunc (.func 38) #[] #[sessions_0]) w fun t_1 w =>
  Calls prog 34 #[s_p0, t_1] w (Ret fun t_2 w =>
  K t_2 w)
theorem B13_eq (s_p0 sessions_p1 : Value) (w : World) (K : Value → World → Prop) : denFn prog Tryz.f13 T13 [s_p0, sessions_p1] w K = B13 s_p0 sessions_p1 w K := by kernel_rfl
theorem c13 {s_p0 sessions_p1 : Value} {w : World} {K : Value → World → Prop} (h : B13 s_p0 sessions_p1 w K) : Calls prog 13 #[s_p0, sessions_p1] w (Ret K) :=
  denFn_calls Tryz.func13 T13_ok (Eq.mpr (B13_eq s_p0 sessions_p1 w K) h)

-- 76 slices.Sort[[]int,int]
def T76 : Ann := (.seq .none .none)
theorem T76_ok : chkFn prog Tryz.f76 T76 = true := by kernel_rfl
def B76 (x_p0 : Value) (w : World) (K : Value → World → Prop) : Prop :=
  pv prog (oBi .len #[23] 3 #[false] #[x_p0]) w fun t_0 w =>
  pvv prog (convert 3 106 t_0) w fun t_1 w =>
  Calls prog 70 #[t_1] w (Ret fun t_2 w =>
  Calls prog 99 #[x_p0, (.int .i64 0), t_0, t_2] w (Ret fun t_3 w =>
  K (.tuple #[]) w))
theorem B76_eq (x_p0 : Value) (w : World) (K : Value → World → Prop) : denFn prog Tryz.f76 T76 [x_p0] w K = B76 x_p0 w K := by kernel_rfl
theorem c76 {x_p0 : Value} {w : World} {K : Value → World → Prop} (h : B76 x_p0 w K) : Calls prog 76 #[x_p0] w (Ret K) :=
  denFn_calls Tryz.func76 T76_ok (Eq.mpr (B76_eq x_p0 w K) h)

-- 70 math/bits.Len
def T70 : Ann := (.seq .none (.seq (.seq (.seq .none .none) .none) (.seq .none .none)))
theorem T70_ok : chkFn prog Tryz.f70 T70 = true := by kernel_rfl
def B70 (x_p0 : Value) (w : World) (K : Value → World → Prop) : Prop :=
  cd (.bool false) (
    pvv prog (convert 106 121 x_p0) w fun t_0 w =>
    Calls prog 89 #[t_0] w (Ret fun t_1 w =>
    K t_1 w)) <|
  Calls prog 90 #[x_p0] w (Ret fun t_2 w =>
  K t_2 w)
theorem B70_eq (x_p0 : Value) (w : World) (K : Value → World → Prop) : denFn prog Tryz.f70 T70 [x_p0] w K = B70 x_p0 w K := by kernel_rfl
theorem c70 {x_p0 : Value} {w : World} {K : Value → World → Prop} (h : B70 x_p0 w K) : Calls prog 70 #[x_p0] w (Ret K) :=
  denFn_calls Tryz.func70 T70_ok (Eq.mpr (B70_eq x_p0 w K) h)

-- 36 slices.Contains[[]int,int]
def T36 : Ann := (.seq .none (.seq .none .none))
theorem T36_ok : chkFn prog Tryz.f36 T36 = true := by kernel_rfl
def B36 (s_p0 v_p1 : Value) (w : World) (K : Value → World → Prop) : Prop :=
  Calls prog 64 #[s_p0, v_p1] w (Ret fun t_0 w =>
  pvv prog (binOp .geq 3 t_0 (.int .i64 0)) w fun t_1 w =>
  K t_1 w)
theorem B36_eq (s_p0 v_p1 : Value) (w : World) (K : Value → World → Prop) : denFn prog Tryz.f36 T36 [s_p0, v_p1] w K = B36 s_p0 v_p1 w K := by kernel_rfl
theorem c36 {s_p0 v_p1 : Value} {w : World} {K : Value → World → Prop} (h : B36 s_p0 v_p1 w K) : Calls prog 36 #[s_p0, v_p1] w (Ret K) :=
  denFn_calls Tryz.func36 T36_ok (Eq.mpr (B36_eq s_p0 v_p1 w K) h)

-- 65 slices.Sorted[int]
def T65 : Ann := (.seq .none (.seq .none (.seq .none (.seq .none .none))))
theorem T65_ok : chkFn prog Tryz.f65 T65 = true := by kernel_rfl
def B65 (seq_p0 : Value) (w : World) (K : Value → World → Prop) : Prop :=
  Calls prog 75 #[seq_p0] w (Ret fun t_0 w =>
  Calls prog 76 #[t_0] w (Ret fun t_1 w =>
  K t_0 w))
theorem B65_eq (seq_p0 : Value) (w : World) (K : Value → World → Prop) : denFn prog Tryz.f65 T65 [seq_p0] w K = B65 seq_p0 w K := by kernel_rfl
theorem c65 {seq_p0 : Value} {w : World} {K : Value → World → Prop} (h : B65 seq_p0 w K) : Calls prog 65 #[seq_p0] w (Ret K) :=
  denFn_calls Tryz.func65 T65_ok (Eq.mpr (B65_eq seq_p0 w K) h)

-- 132 cmp.isNaN[int]
def T132 : Ann := (.seq .none (.seq .none .none))
theorem T132_ok : chkFn prog Tryz.f132 T132 = true := by kernel_rfl
def B132 (x_p0 : Value) (w : World) (K : Value → World → Prop) : Prop :=
  pvv prog (oEq .neq 3 (.tmp 3) (.tmp 4) x_p0 x_p0) w fun t_0 w =>
  K t_0 w
theorem B132_eq (x_p0 : Value) (w : World) (K : Value → World → Prop) : denFn prog Tryz.f132 T132 [x_p0] w K = B132 x_p0 w K := by kernel_rfl
theorem c132 {x_p0 : Value} {w : World} {K : Value → World → Prop} (h : B132 x_p0 w K) : Calls prog 132 #[x_p0] w (Ret K) :=
  denFn_calls Tryz.func132 T132_ok (Eq.mpr (B132_eq x_p0 w K) h)


end Go.Proofs.YtbcimkjgpplcpaaGreatDoor
