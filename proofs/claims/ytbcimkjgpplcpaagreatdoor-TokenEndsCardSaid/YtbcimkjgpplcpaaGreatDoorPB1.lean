import Derived.Test.YtbcimkjgpplcpaaGreatDoorPI
set_option linter.all false
set_option maxRecDepth 100000
namespace Go.Proofs.YtbcimkjgpplcpaaGreatDoor
open Go Hold
-- 9 holdfast/holdfastlaw12.do
def T9 : Ann := (.seq .none (.seq (.seq .none (.block (.seq .none (.seq (.seq .none (.seq .none (.seq .none .none))) (.seq .none (.seq (.seq .none (.seq .none (.seq .none .none))) (.seq .none (.seq (.seq .none (.seq .none (.seq .none .none))) (.seq .none (.seq (.seq .none (.seq .none (.seq .none .none))) (.seq .none (.seq (.seq (.draw [.op 0 .pure, .op 1 .pure, .op 4 .pure, .op 5 .pure, .op 2 .load, .op 6 .load, .op 3 .eff, .op 7 .eff, .op 8 .pure, .op 9 .pure]) .none) (.seq .none (.seq (.seq (.draw [.op 0 .pure, .op 1 .pure, .op 4 .pure, .op 5 .pure, .op 2 .load, .op 6 .load, .op 3 .eff, .op 7 .eff, .op 8 .eff, .op 9 .pure]) .none) (.seq .none (.seq (.seq (.draw [.op 0 .pure, .op 1 .pure, .op 3 .pure, .op 6 .pure, .op 7 .pure, .op 9 .pure, .op 2 .load, .op 4 .load, .op 8 .load, .op 10 .load, .op 5 .eff, .op 11 .eff, .op 12 .eff, .op 13 .pure]) .none) .none)))))))))))))))) (.seq .none (.seq .none (.seq .none .none)))))
theorem T9_ok : chkFn prog Tryz.f9 T9 = true := by kernel_rfl
def B9 (s_p0 r_p1 x_p2 : Value) (w : World) (K : Value → World → Prop) : Prop :=
  efv prog (Instr.box 32 x_p2) w fun x_0 w =>
  pvv prog (Instr.fieldAt 32 x_0 0) w fun t_1 w =>
  ldv prog (Instr.loadAt 3 t_1) w fun t_2 w =>
  pvv prog (oEq .eql 3 (.tmp 32) (.const (.int .i64 0)) t_2 (.int .i64 0)) w fun t_3 w =>
  cd t_3 (
    pvv prog (Instr.fieldAt 32 x_0 1) w fun t_4 w =>
    ldv prog (Instr.loadAt 3 t_4) w fun t_5 w =>
    pvv prog (Instr.fieldAt 32 x_0 4) w fun t_6 w =>
    ldv prog (Instr.loadAt 9 t_6) w fun t_7 w =>
    pvv prog (Instr.fieldAt 32 x_0 5) w fun t_8 w =>
    ldv prog (Instr.loadAt 30 t_8) w fun t_9 w =>
    pvv prog (Instr.fieldAt 32 x_0 3) w fun t_10 w =>
    ldv prog (Instr.loadAt 3 t_10) w fun t_11 w =>
    Calls prog 17 #[s_p0, t_5, t_7, t_9, t_11] w (Ret fun t_12 w =>
    pvv prog (Instr.extract t_12 0) w fun t_13 w =>
    pvv prog (Instr.extract t_12 1) w fun t_14 w =>
    pvv prog (Instr.extract t_12 2) w fun t_15 w =>
    efv prog (Instr.alloc 35 true (.tuple #[])) w fun f_16 w =>
    efv prog (Instr.alloc 49 true (.tuple #[])) w fun t_17 w =>
    efu prog (Instr.storeAt 35 f_16 t_13) w fun u_18 w =>
    efu prog (Instr.storeAt 49 t_17 t_14) w fun u_19 w =>
    pvv prog (Instr.fieldAt 32 x_0 1) w fun t_20 w =>
    ldv prog (Instr.loadAt 3 t_20) w fun t_21 w =>
    pvv prog (Instr.fieldAt 32 x_0 4) w fun t_22 w =>
    ldv prog (Instr.loadAt 9 t_22) w fun t_23 w =>
    pvv prog (Instr.fieldAt 32 x_0 5) w fun t_24 w =>
    ldv prog (Instr.loadAt 30 t_24) w fun t_25 w =>
    pvv prog (Instr.fieldAt 32 x_0 3) w fun t_26 w =>
    ldv prog (Instr.loadAt 3 t_26) w fun t_27 w =>
    Calls prog 23 #[r_p1, t_21, t_23, t_25, t_27] w (Ret fun t_28 w =>
    pvv prog (Instr.extract t_28 0) w fun t_29 w =>
    pvv prog (Instr.extract t_28 1) w fun t_30 w =>
    pvv prog (Instr.extract t_28 2) w fun t_31 w =>
    efv prog (Instr.alloc 35 true (.tuple #[])) w fun g_32 w =>
    efv prog (Instr.alloc 49 true (.tuple #[])) w fun u_33 w =>
    efu prog (Instr.storeAt 35 g_32 t_29) w fun u_34 w =>
    efu prog (Instr.storeAt 49 u_33 t_30) w fun u_35 w =>
    ldv prog (Instr.loadAt 35 f_16) w fun t_36 w =>
    ldv prog (Instr.loadAt 35 g_32) w fun t_37 w =>
    pvv prog (oEq .eql 35 (.tmp 63) (.tmp 64) t_36 t_37) w fun t_38 w =>
    gate (some (t_38, true)) (fun K => ldv prog (Instr.loadAt 49 t_17) w K) w fun t_39 w =>
    gate (some (t_38, true)) (fun K => ldv prog (Instr.loadAt 49 u_33) w K) w fun t_40 w =>
    gate (some (t_38, true)) (fun K => pvv prog (oEq .eql 49 (.tmp 67) (.tmp 68) t_39 t_40) w K) w fun t_41 w =>
    pv prog (oPick t_38 t_41 (.bool false)) w fun t_42 w =>
    gate (some (t_42, true)) (fun K => K t_15 w) w fun t_43 w =>
    gate (some (t_42, true)) (fun K => K t_31 w) w fun t_44 w =>
    gate (some (t_42, true)) (fun K => pvv prog (oEq .eql 36 (.tmp 72) (.tmp 73) t_43 t_44) w K) w fun t_45 w =>
    pv prog (oPick t_42 t_45 (.bool false)) w fun t_46 w =>
    K t_46 w))) <|
  pvv prog (oEq .eql 3 (.tmp 32) (.const (.int .i64 1)) t_2 (.int .i64 1)) w fun t_47 w =>
  cd t_47 (
    pvv prog (Instr.fieldAt 32 x_0 1) w fun t_48 w =>
    ldv prog (Instr.loadAt 3 t_48) w fun t_49 w =>
    pvv prog (Instr.fieldAt 32 x_0 2) w fun t_50 w =>
    ldv prog (Instr.loadAt 3 t_50) w fun t_51 w =>
    pvv prog (Instr.fieldAt 32 x_0 3) w fun t_52 w =>
    ldv prog (Instr.loadAt 3 t_52) w fun t_53 w =>
    Calls prog 18 #[s_p0, t_49, t_51, t_53] w (Ret fun t_54 w =>
    pvv prog (Instr.extract t_54 0) w fun t_55 w =>
    pvv prog (Instr.extract t_54 1) w fun t_56 w =>
    pvv prog (Instr.extract t_54 2) w fun t_57 w =>
    efv prog (Instr.alloc 35 true (.tuple #[])) w fun f_58 w =>
    efv prog (Instr.alloc 49 true (.tuple #[])) w fun t_59 w =>
    efu prog (Instr.storeAt 35 f_58 t_55) w fun u_60 w =>
    efu prog (Instr.storeAt 49 t_59 t_56) w fun u_61 w =>
    pvv prog (Instr.fieldAt 32 x_0 1) w fun t_62 w =>
    ldv prog (Instr.loadAt 3 t_62) w fun t_63 w =>
    pvv prog (Instr.fieldAt 32 x_0 2) w fun t_64 w =>
    ldv prog (Instr.loadAt 3 t_64) w fun t_65 w =>
    pvv prog (Instr.fieldAt 32 x_0 3) w fun t_66 w =>
    ldv prog (Instr.loadAt 3 t_66) w fun t_67 w =>
    Calls prog 24 #[r_p1, t_63, t_65, t_67] w (Ret fun t_68 w =>
    pvv prog (Instr.extract t_68 0) w fun t_69 w =>
    pvv prog (Instr.extract t_68 1) w fun t_70 w =>
    pvv prog (Instr.extract t_68 2) w fun t_71 w =>
    efv prog (Instr.alloc 35 true (.tuple #[])) w fun g_72 w =>
    efv prog (Instr.alloc 49 true (.tuple #[])) w fun u_73 w =>
    efu prog (Instr.storeAt 35 g_72 t_69) w fun u_74 w =>
    efu prog (Instr.storeAt 49 u_73 t_70) w fun u_75 w =>
    ldv prog (Instr.loadAt 35 f_58) w fun t_76 w =>
    ldv prog (Instr.loadAt 35 g_72) w fun t_77 w =>
    pvv prog (oEq .eql 35 (.tmp 102) (.tmp 103) t_76 t_77) w fun t_78 w =>
    gate (some (t_78, true)) (fun K => ldv prog (Instr.loadAt 49 t_59) w K) w fun t_79 w =>
    gate (some (t_78, true)) (fun K => ldv prog (Instr.loadAt 49 u_73) w K) w fun t_80 w =>
    gate (some (t_78, true)) (fun K => pvv prog (oEq .eql 49 (.tmp 106) (.tmp 107) t_79 t_80) w K) w fun t_81 w =>
    pv prog (oPick t_78 t_81 (.bool false)) w fun t_82 w =>
    gate (some (t_82, true)) (fun K => K t_57 w) w fun t_83 w =>
    gate (some (t_82, true)) (fun K => K t_71 w) w fun t_84 w =>
    gate (some (t_82, true)) (fun K => pvv prog (oEq .eql 36 (.tmp 111) (.tmp 112) t_83 t_84) w K) w fun t_85 w =>
    pv prog (oPick t_82 t_85 (.bool false)) w fun t_86 w =>
    K t_86 w))) <|
  pvv prog (oEq .eql 3 (.tmp 32) (.const (.int .i64 2)) t_2 (.int .i64 2)) w fun t_87 w =>
  cd t_87 (
    pvv prog (Instr.fieldAt 32 x_0 1) w fun t_88 w =>
    ldv prog (Instr.loadAt 3 t_88) w fun t_89 w =>
    pvv prog (Instr.fieldAt 32 x_0 3) w fun t_90 w =>
    ldv prog (Instr.loadAt 3 t_90) w fun t_91 w =>
    Calls prog 19 #[s_p0, t_89, t_91] w (Ret fun t_92 w =>
    pvv prog (Instr.extract t_92 0) w fun t_93 w =>
    pvv prog (Instr.extract t_92 1) w fun t_94 w =>
    efv prog (Instr.alloc 49 true (.tuple #[])) w fun t_95 w =>
    efu prog (Instr.storeAt 49 t_95 t_93) w fun u_96 w =>
    pvv prog (Instr.fieldAt 32 x_0 1) w fun t_97 w =>
    ldv prog (Instr.loadAt 3 t_97) w fun t_98 w =>
    pvv prog (Instr.fieldAt 32 x_0 3) w fun t_99 w =>
    ldv prog (Instr.loadAt 3 t_99) w fun t_100 w =>
    Calls prog 25 #[r_p1, t_98, t_100] w (Ret fun t_101 w =>
    pvv prog (Instr.extract t_101 0) w fun t_102 w =>
    pvv prog (Instr.extract t_101 1) w fun t_103 w =>
    efv prog (Instr.alloc 49 true (.tuple #[])) w fun u_104 w =>
    efu prog (Instr.storeAt 49 u_104 t_102) w fun u_105 w =>
    ldv prog (Instr.loadAt 49 t_95) w fun t_106 w =>
    ldv prog (Instr.loadAt 49 u_104) w fun t_107 w =>
    pvv prog (oEq .eql 49 (.tmp 135) (.tmp 136) t_106 t_107) w fun t_108 w =>
    gate (some (t_108, true)) (fun K => K t_94 w) w fun t_109 w =>
    gate (some (t_108, true)) (fun K => K t_103 w) w fun t_110 w =>
    gate (some (t_108, true)) (fun K => pvv prog (oEq .eql 36 (.tmp 139) (.tmp 140) t_109 t_110) w K) w fun t_111 w =>
    pv prog (oPick t_108 t_111 (.bool false)) w fun t_112 w =>
    K t_112 w))) <|
  pvv prog (oEq .eql 3 (.tmp 32) (.const (.int .i64 3)) t_2 (.int .i64 3)) w fun t_113 w =>
  cd t_113 (
    pvv prog (Instr.fieldAt 32 x_0 1) w fun t_114 w =>
    ldv prog (Instr.loadAt 3 t_114) w fun t_115 w =>
    pvv prog (Instr.fieldAt 32 x_0 5) w fun t_116 w =>
    ldv prog (Instr.loadAt 30 t_116) w fun t_117 w =>
    pvv prog (Instr.fieldAt 32 x_0 3) w fun t_118 w =>
    ldv prog (Instr.loadAt 3 t_118) w fun t_119 w =>
    Calls prog 20 #[s_p0, t_115, t_117, t_119] w (Ret fun t_120 w =>
    pvv prog (Instr.extract t_120 0) w fun t_121 w =>
    pvv prog (Instr.extract t_120 1) w fun t_122 w =>
    efv prog (Instr.alloc 49 true (.tuple #[])) w fun t_123 w =>
    efu prog (Instr.storeAt 49 t_123 t_121) w fun u_124 w =>
    pvv prog (Instr.fieldAt 32 x_0 1) w fun t_125 w =>
    ldv prog (Instr.loadAt 3 t_125) w fun t_126 w =>
    pvv prog (Instr.fieldAt 32 x_0 5) w fun t_127 w =>
    ldv prog (Instr.loadAt 30 t_127) w fun t_128 w =>
    pvv prog (Instr.fieldAt 32 x_0 3) w fun t_129 w =>
    ldv prog (Instr.loadAt 3 t_129) w fun t_130 w =>
    Calls prog 26 #[r_p1, t_126, t_128, t_130] w (Ret fun t_131 w =>
    pvv prog (Instr.extract t_131 0) w fun t_132 w =>
    pvv prog (Instr.extract t_131 1) w fun t_133 w =>
    efv prog (Instr.alloc 49 true (.tuple #[])) w fun u_134 w =>
    efu prog (Instr.storeAt 49 u_134 t_132) w fun u_135 w =>
    ldv prog (Instr.loadAt 49 t_123) w fun t_136 w =>
    ldv prog (Instr.loadAt 49 u_134) w fun t_137 w =>
    pvv prog (oEq .eql 49 (.tmp 167) (.tmp 168) t_136 t_137) w fun t_138 w =>
    gate (some (t_138, true)) (fun K => K t_122 w) w fun t_139 w =>
    gate (some (t_138, true)) (fun K => K t_133 w) w fun t_140 w =>
    gate (some (t_138, true)) (fun K => pvv prog (oEq .eql 36 (.tmp 171) (.tmp 172) t_139 t_140) w K) w fun t_141 w =>
    pv prog (oPick t_138 t_141 (.bool false)) w fun t_142 w =>
    K t_142 w))) <|
  pvv prog (oEq .eql 3 (.tmp 32) (.const (.int .i64 4)) t_2 (.int .i64 4)) w fun t_143 w =>
  cd t_143 (
    dr w fun w =>
    pvv prog (Instr.fieldAt 32 x_0 1) w fun t_144 w =>
    pvv prog (Instr.fieldAt 32 x_0 1) w fun t_145 w =>
    bindS (vN (Instr.loadAt 3 t_144)) fun m_147 => ldv prog (Instr.loadAt 3 t_144) w fun t_146 w =>
    bindS (vN (Instr.loadAt 3 t_145)) fun m_149 => ldv prog (Instr.loadAt 3 t_145) w fun t_148 w =>
    Calls prog 22 #[s_p0, t_146] w (Ret fun t_150 w => stay prog none m_149 t_148 w <| 
    Calls prog 27 #[r_p1, t_148] w (Ret fun t_151 w => stay prog none m_147 t_146 w <| 
    pvv prog (oEq .eql 36 (.tmp 180) (.tmp 184) t_150 t_151) w fun t_152 w =>
    K t_152 w))) <|
  pvv prog (oEq .eql 3 (.tmp 32) (.const (.int .i64 5)) t_2 (.int .i64 5)) w fun t_155 w =>
  cd t_155 (
    dr w fun w =>
    pvv prog (Instr.fieldAt 32 x_0 6) w fun t_156 w =>
    pvv prog (Instr.fieldAt 32 x_0 6) w fun t_157 w =>
    bindS (vN (Instr.loadAt 23 t_156)) fun m_159 => ldv prog (Instr.loadAt 23 t_156) w fun t_158 w =>
    bindS (vN (Instr.loadAt 23 t_157)) fun m_161 => ldv prog (Instr.loadAt 23 t_157) w fun t_160 w =>
    Calls prog 13 #[s_p0, t_158] w (Ret fun t_162 w => stay prog none m_161 t_160 w <| 
    Calls prog 29 #[r_p1, t_160] w (Ret fun t_163 w => stay prog none m_159 t_158 w <| 
    Calls prog 28 #[t_162, t_163] w (Ret fun t_164 w => stay prog none m_161 t_160 w <| stay prog none m_159 t_158 w <| 
    K t_164 w)))) <|
  pvv prog (oEq .eql 3 (.tmp 32) (.const (.int .i64 6)) t_2 (.int .i64 6)) w fun t_168 w =>
  cd t_168 (
    dr w fun w =>
    pvv prog (Instr.fieldAt 32 x_0 4) w fun t_169 w =>
    pvv prog (Instr.fieldAt 32 x_0 6) w fun t_170 w =>
    pvv prog (Instr.fieldAt 32 x_0 4) w fun t_171 w =>
    pvv prog (Instr.fieldAt 32 x_0 6) w fun t_172 w =>
    bindS (vN (Instr.loadAt 9 t_169)) fun m_174 => ldv prog (Instr.loadAt 9 t_169) w fun t_173 w =>
    bindS (vN (Instr.loadAt 23 t_170)) fun m_176 => ldv prog (Instr.loadAt 23 t_170) w fun t_175 w =>
    bindS (vN (Instr.loadAt 9 t_171)) fun m_178 => ldv prog (Instr.loadAt 9 t_171) w fun t_177 w =>
    bindS (vN (Instr.loadAt 23 t_172)) fun m_180 => ldv prog (Instr.loadAt 23 t_172) w fun t_179 w =>
    Calls prog 11 #[s_p0, t_173, t_175] w (Ret fun t_181 w => stay prog none m_180 t_179 w <| stay prog none m_178 t_177 w <| 
    Calls prog 30 #[r_p1, t_177, t_179] w (Ret fun t_182 w => stay prog none m_176 t_175 w <| stay prog none m_174 t_173 w <| 
    Calls prog 28 #[t_181, t_182] w (Ret fun t_183 w => stay prog none m_180 t_179 w <| stay prog none m_178 t_177 w <| stay prog none m_176 t_175 w <| stay prog none m_174 t_173 w <| 
    K t_183 w)))) <|
  pvv prog (Instr.fieldAt 32 x_0 3) w fun t_187 w =>
  ldv prog (Instr.loadAt 3 t_187) w fun t_188 w =>
  Calls prog 21 #[s_p0, t_188] w (Ret fun t_189 w =>
  pvv prog (Instr.extract t_189 0) w fun t_190 w =>
  pvv prog (Instr.extract t_189 1) w fun t_191 w =>
  pvv prog (Instr.fieldAt 32 x_0 3) w fun t_192 w =>
  ldv prog (Instr.loadAt 3 t_192) w fun t_193 w =>
  Calls prog 31 #[r_p1, t_193] w (Ret fun t_194 w =>
  pvv prog (Instr.extract t_194 0) w fun t_195 w =>
  pvv prog (Instr.extract t_194 1) w fun t_196 w =>
  pvv prog (oEq .eql 3 (.tmp 226) (.tmp 227) t_190 t_195) w fun t_197 w =>
  gate (some (t_197, true)) (fun K => K t_191 w) w fun t_198 w =>
  gate (some (t_197, true)) (fun K => K t_196 w) w fun t_199 w =>
  gate (some (t_197, true)) (fun K => pvv prog (oEq .eql 36 (.tmp 230) (.tmp 231) t_198 t_199) w K) w fun t_200 w =>
  pv prog (oPick t_197 t_200 (.bool false)) w fun t_201 w =>
  K t_201 w))
theorem B9_eq (s_p0 r_p1 x_p2 : Value) (w : World) (K : Value → World → Prop) : denFn prog Tryz.f9 T9 [s_p0, r_p1, x_p2] w K = B9 s_p0 r_p1 x_p2 w K := by kernel_rfl
theorem c9 {s_p0 r_p1 x_p2 : Value} {w : World} {K : Value → World → Prop} (h : B9 s_p0 r_p1 x_p2 w K) : Calls prog 9 #[s_p0, r_p1, x_p2] w (Ret K) :=
  denFn_calls Tryz.func9 T9_ok (Eq.mpr (B9_eq s_p0 r_p1 x_p2 w K) h)

-- 24 (*holdfast/holdfastref12.Store).Refresh
def T24 : Ann := (.seq .none (.seq (.seq .none (.seq .none (.seq (.seq .none .none) .none))) (.seq .none (.seq (.seq .none (.seq (.seq .none .none) .none)) (.seq .none (.seq (.block (.seq .none (.seq (.seq .none .none) (.seq .none (.seq (.seq .none (.seq .none (.seq .none .none))) (.seq .none (.seq (.seq .none .none) .none))))))) (.seq .none (.seq .none (.seq .none (.seq .none (.seq .none (.seq .none (.seq (.draw [.op 1 .pure, .op 2 .pure, .op 3 .pure, .op 5 .pure, .op 6 .pure, .op 0 .load, .op 4 .load, .op 7 .eff, .op 8 .eff, .op 9 .eff, .op 10 .pure]) .none)))))))))))))
theorem T24_ok : chkFn prog Tryz.f24 T24 = true := by kernel_rfl
def B24 (s_p0 family_p1 number_p2 now_p3 : Value) (w : World) (K : Value → World → Prop) : Prop :=
  efv prog (Instr.alloc 35 true (.tuple #[])) w fun t_0 w =>
  efv prog (Instr.alloc 49 true (.tuple #[])) w fun t_1 w =>
  Calls prog 59 #[s_p0, now_p3] w (Ret fun t_2 w =>
  pvv prog (oEq .neq 36 (.tmp 19) (.const (.int .i64 0)) t_2 (.int .i64 0)) w fun t_3 w =>
  cd t_3 (
    pvv prog (Instr.build 35 #[]) w fun t_4 w =>
    pvv prog (Instr.build 49 #[]) w fun t_5 w =>
    efu prog (Instr.storeAt 35 t_0 t_4) w fun u_6 w =>
    efu prog (Instr.storeAt 49 t_1 t_5) w fun u_7 w =>
    ∃ r_8, (do loadVar 35 (← asAddr t_0)).run prog w = .ok r_8 w ∧ ∃ r_9, (do loadVar 49 (← asAddr t_1)).run prog w = .ok r_9 w ∧ K (.tuple #[r_8, r_9, t_2]) w) <|
  Calls prog 60 #[s_p0, family_p1] w (Ret fun t_10 w =>
  pvv prog (Instr.extract t_10 0) w fun t_11 w =>
  pvv prog (Instr.extract t_10 1) w fun t_12 w =>
  pvv prog (oEq .neq 36 (.tmp 30) (.const (.int .i64 0)) t_12 (.int .i64 0)) w fun t_13 w =>
  cd t_13 (
    pvv prog (Instr.build 35 #[]) w fun t_14 w =>
    pvv prog (Instr.build 49 #[]) w fun t_15 w =>
    efu prog (Instr.storeAt 35 t_0 t_14) w fun u_16 w =>
    efu prog (Instr.storeAt 49 t_1 t_15) w fun u_17 w =>
    ∃ r_18, (do loadVar 35 (← asAddr t_0)).run prog w = .ok r_18 w ∧ ∃ r_19, (do loadVar 49 (← asAddr t_1)).run prog w = .ok r_19 w ∧ K (.tuple #[r_18, r_19, t_12]) w) <|
  pv prog (oNil s_p0) w fun t_20 w =>
  pvv prog (Instr.fieldAt 69 t_20 3) w fun t_21 w =>
  ldv prog (Instr.loadAt 43 t_21) w fun t_22 w =>
  pvv prog (Instr.indexAt 43 t_22 t_11) w fun t_23 w =>
  ldv prog (Instr.loadAt 35 t_23) w fun t_24 w =>
  efv prog (Instr.alloc 35 true (.tuple #[])) w fun f_25 w =>
  efu prog (Instr.storeAt 35 f_25 t_24) w fun u_26 w =>
  pvv prog (Instr.fieldAt 35 f_25 4) w fun t_27 w =>
  ldv prog (Instr.loadAt 3 t_27) w fun t_28 w =>
  pvv prog (binOp .gtr 3 number_p2 t_28) w fun t_29 w =>
  gate (some (t_29, false)) (fun K => K number_p2 w) w fun t_30 w =>
  gate (some (t_29, false)) (fun K => pvv prog (binOp .lss 3 t_30 (.int .i64 1)) w K) w fun t_31 w =>
  pv prog (oPick t_29 (.bool true) t_31) w fun t_32 w =>
  cd t_32 (
    pvv prog (Instr.build 35 #[]) w fun t_33 w =>
    pvv prog (Instr.build 49 #[]) w fun t_34 w =>
    efu prog (Instr.storeAt 35 t_0 t_33) w fun u_35 w =>
    efu prog (Instr.storeAt 49 t_1 t_34) w fun u_36 w =>
    ∃ r_37, (do loadVar 35 (← asAddr t_0)).run prog w = .ok r_37 w ∧ ∃ r_38, (do loadVar 49 (← asAddr t_1)).run prog w = .ok r_38 w ∧ K (.tuple #[r_37, r_38, (.int .i64 10)]) w) <|
  pvv prog (Instr.fieldAt 35 f_25 4) w fun t_39 w =>
  ldv prog (Instr.loadAt 3 t_39) w fun t_40 w =>
  pvv prog (binOp .lss 3 number_p2 t_40) w fun t_41 w =>
  cd t_41 (
    Calls prog 61 #[s_p0, family_p1] w (Ret fun t_42 w =>
    pv prog (oNil s_p0) w fun t_43 w =>
    pvv prog (Instr.fieldAt 69 t_43 2) w fun t_44 w =>
    efu prog (Instr.storeAt 3 t_44 now_p3) w fun u_45 w =>
    pvv prog (Instr.build 35 #[]) w fun t_46 w =>
    pvv prog (Instr.build 49 #[]) w fun t_47 w =>
    efu prog (Instr.storeAt 35 t_0 t_46) w fun u_48 w =>
    efu prog (Instr.storeAt 49 t_1 t_47) w fun u_49 w =>
    ∃ r_50, (do loadVar 35 (← asAddr t_0)).run prog w = .ok r_50 w ∧ ∃ r_51, (do loadVar 49 (← asAddr t_1)).run prog w = .ok r_51 w ∧ K (.tuple #[r_50, r_51, (.int .i64 13)]) w)) <|
  pv prog (oNil s_p0) w fun t_52 w =>
  pvv prog (Instr.fieldAt 69 t_52 1) w fun t_53 w =>
  ldv prog (Instr.loadAt 3 t_53) w fun t_54 w =>
  pvv prog (binOp .gtr 3 t_54 (.int .i64 1099511627776)) w fun t_55 w =>
  gate (some (t_55, false)) (fun K => pvv prog (Instr.fieldAt 35 f_25 4) w K) w fun t_56 w =>
  gate (some (t_55, false)) (fun K => ldv prog (Instr.loadAt 3 t_56) w K) w fun t_57 w =>
  gate (some (t_55, false)) (fun K => pvv prog (binOp .geq 3 t_57 (.int .i64 1099511627776)) w K) w fun t_58 w =>
  pv prog (oPick t_55 (.bool true) t_58) w fun t_59 w =>
  cd t_59 (
    pvv prog (Instr.build 35 #[]) w fun t_60 w =>
    pvv prog (Instr.build 49 #[]) w fun t_61 w =>
    efu prog (Instr.storeAt 35 t_0 t_60) w fun u_62 w =>
    efu prog (Instr.storeAt 49 t_1 t_61) w fun u_63 w =>
    ∃ r_64, (do loadVar 35 (← asAddr t_0)).run prog w = .ok r_64 w ∧ ∃ r_65, (do loadVar 49 (← asAddr t_1)).run prog w = .ok r_65 w ∧ K (.tuple #[r_64, r_65, (.int .i64 7)]) w) <|
  pvv prog (Instr.fieldAt 35 f_25 4) w fun t_66 w =>
  ldv prog (Instr.loadAt 3 t_66) w fun t_67 w =>
  pvv prog (binOp .add 3 t_67 (.int .i64 1)) w fun t_68 w =>
  pvv prog (Instr.fieldAt 35 f_25 4) w fun t_69 w =>
  efu prog (Instr.storeAt 3 t_69 t_68) w fun u_70 w =>
  pv prog (oNil s_p0) w fun t_71 w =>
  pvv prog (Instr.fieldAt 69 t_71 2) w fun t_72 w =>
  efu prog (Instr.storeAt 3 t_72 now_p3) w fun u_73 w =>
  pv prog (oNil s_p0) w fun t_74 w =>
  pvv prog (Instr.fieldAt 69 t_74 3) w fun t_75 w =>
  ldv prog (Instr.loadAt 43 t_75) w fun t_76 w =>
  ef prog (oBi .append #[43, 43] 43 #[false, false] #[(.slice none 0 0), t_76]) w fun t_77 w =>
  ldv prog (Instr.loadAt 35 f_25) w fun t_78 w =>
  pvv prog (Instr.indexAt 43 t_77 t_11) w fun t_79 w =>
  efu prog (Instr.storeAt 35 t_79 t_78) w fun u_80 w =>
  pv prog (oNil s_p0) w fun t_81 w =>
  pvv prog (Instr.fieldAt 69 t_81 3) w fun t_82 w =>
  efu prog (Instr.storeAt 43 t_82 t_77) w fun u_83 w =>
  dr w fun w =>
  pvv prog (Instr.fieldAt 35 f_25 3) w fun t_84 w =>
  pvv prog (binOp .add 3 now_p3 (.int .i64 50)) w fun t_85 w =>
  bindS (vN (Instr.loadAt 35 f_25)) fun m_87 => ldv prog (Instr.loadAt 35 f_25) w fun t_86 w =>
  bindS (vN (Instr.loadAt 30 t_84)) fun m_89 => ldv prog (Instr.loadAt 30 t_84) w fun t_88 w =>
  Calls prog 58 #[s_p0, family_p1, t_88, t_85] w (Ret fun t_90 w => stay prog none m_87 t_86 w <| 
  efu prog (Instr.storeAt 35 t_0 t_86) w fun u_91 w => stay prog none m_89 t_88 w <| 
  efu prog (Instr.storeAt 49 t_1 t_90) w fun u_92 w =>
  ∃ r_93, (do loadVar 35 (← asAddr t_0)).run prog w = .ok r_93 w ∧ ∃ r_94, (do loadVar 49 (← asAddr t_1)).run prog w = .ok r_94 w ∧ K (.tuple #[r_93, r_94, (.int .i64 0)]) w)))
theorem B24_eq (s_p0 family_p1 number_p2 now_p3 : Value) (w : World) (K : Value → World → Prop) : denFn prog Tryz.f24 T24 [s_p0, family_p1, number_p2, now_p3] w K = B24 s_p0 family_p1 number_p2 now_p3 w K := by kernel_rfl
theorem c24 {s_p0 family_p1 number_p2 now_p3 : Value} {w : World} {K : Value → World → Prop} (h : B24 s_p0 family_p1 number_p2 now_p3 w K) : Calls prog 24 #[s_p0, family_p1, number_p2, now_p3] w (Ret K) :=
  denFn_calls Tryz.func24 T24_ok (Eq.mpr (B24_eq s_p0 family_p1 number_p2 now_p3 w K) h)

-- 8 holdfast/holdfastlaw12.live
def T8 : Ann := (.seq .none (.seq .none (.seq (.seq .none (.seq (.seq .none .none) .none)) (.seq .none (.seq .none (.seq .none (.seq .none (.seq .none .none))))))))
theorem T8_ok : chkFn prog Tryz.f8 T8 = true := by kernel_rfl
def B8 (w : World) (K : Value → World → Prop) : Prop :=
  Calls prog 6 #[] w (Ret fun t_0 w =>
  pvv prog (oEq .eql 24 (.tmp 14) (.const (.pointer none)) t_0 (.pointer none)) w fun t_1 w =>
  cd t_1 (
    K (.bool false) w) <|
  Calls prog 17 #[t_0, (.int .i64 1), (.string ⟨#[99]⟩), (.int .u8 3), (.int .i64 0)] w (Ret fun t_2 w =>
  pvv prog (Instr.extract t_2 0) w fun t_3 w =>
  pvv prog (Instr.extract t_2 1) w fun t_4 w =>
  pvv prog (Instr.extract t_2 2) w fun t_5 w =>
  efv prog (Instr.alloc 35 true (.tuple #[])) w fun f_6 w =>
  efv prog (Instr.alloc 49 true (.tuple #[])) w fun t_7 w =>
  efu prog (Instr.storeAt 35 f_6 t_3) w fun u_8 w =>
  efu prog (Instr.storeAt 49 t_7 t_4) w fun u_9 w =>
  Calls prog 18 #[t_0, (.int .i64 1), (.int .i64 1), (.int .i64 10)] w (Ret fun t_10 w =>
  pvv prog (Instr.extract t_10 0) w fun t_11 w =>
  pvv prog (Instr.extract t_10 1) w fun t_12 w =>
  pvv prog (Instr.extract t_10 2) w fun t_13 w =>
  efv prog (Instr.alloc 35 true (.tuple #[])) w fun g_14 w =>
  efv prog (Instr.alloc 49 true (.tuple #[])) w fun u_15 w =>
  efu prog (Instr.storeAt 35 g_14 t_11) w fun u_16 w =>
  efu prog (Instr.storeAt 49 u_15 t_12) w fun u_17 w =>
  Calls prog 18 #[t_0, (.int .i64 1), (.int .i64 1), (.int .i64 11)] w (Ret fun t_18 w =>
  pvv prog (Instr.extract t_18 0) w fun t_19 w =>
  pvv prog (Instr.extract t_18 1) w fun t_20 w =>
  pvv prog (Instr.extract t_18 2) w fun t_21 w =>
  efv prog (Instr.alloc 35 true (.tuple #[])) w fun t_22 w =>
  efv prog (Instr.alloc 49 true (.tuple #[])) w fun t_23 w =>
  efu prog (Instr.storeAt 35 t_22 t_19) w fun u_24 w =>
  efu prog (Instr.storeAt 49 t_23 t_20) w fun u_25 w =>
  Calls prog 19 #[t_0, (.int .i64 2), (.int .i64 11)] w (Ret fun t_26 w =>
  pvv prog (Instr.extract t_26 0) w fun t_27 w =>
  pvv prog (Instr.extract t_26 1) w fun t_28 w =>
  efv prog (Instr.alloc 49 true (.tuple #[])) w fun t_29 w =>
  efu prog (Instr.storeAt 49 t_29 t_27) w fun u_30 w =>
  pvv prog (oEq .eql 36 (.tmp 39) (.const (.int .i64 0)) t_5 (.int .i64 0)) w fun t_31 w =>
  gate (some (t_31, true)) (fun K => pvv prog (Instr.fieldAt 35 f_6 0) w K) w fun t_32 w =>
  gate (some (t_31, true)) (fun K => ldv prog (Instr.loadAt 3 t_32) w K) w fun t_33 w =>
  gate (some (t_31, true)) (fun K => pvv prog (oEq .eql 3 (.tmp 43) (.const (.int .i64 1)) t_33 (.int .i64 1)) w K) w fun t_34 w =>
  pv prog (oPick t_31 t_34 (.bool false)) w fun t_35 w =>
  gate (some (t_35, true)) (fun K => pvv prog (Instr.fieldAt 49 t_7 3) w K) w fun t_36 w =>
  gate (some (t_35, true)) (fun K => ldv prog (Instr.loadAt 3 t_36) w K) w fun t_37 w =>
  gate (some (t_35, true)) (fun K => pvv prog (oEq .eql 3 (.tmp 48) (.const (.int .i64 50)) t_37 (.int .i64 50)) w K) w fun t_38 w =>
  pv prog (oPick t_35 t_38 (.bool false)) w fun t_39 w =>
  gate (some (t_39, true)) (fun K => K t_13 w) w fun t_40 w =>
  gate (some (t_39, true)) (fun K => pvv prog (oEq .eql 36 (.tmp 52) (.const (.int .i64 0)) t_40 (.int .i64 0)) w K) w fun t_41 w =>
  pv prog (oPick t_39 t_41 (.bool false)) w fun t_42 w =>
  gate (some (t_42, true)) (fun K => pvv prog (Instr.fieldAt 35 g_14 4) w K) w fun t_43 w =>
  gate (some (t_42, true)) (fun K => ldv prog (Instr.loadAt 3 t_43) w K) w fun t_44 w =>
  gate (some (t_42, true)) (fun K => pvv prog (oEq .eql 3 (.tmp 57) (.const (.int .i64 2)) t_44 (.int .i64 2)) w K) w fun t_45 w =>
  pv prog (oPick t_42 t_45 (.bool false)) w fun t_46 w =>
  gate (some (t_46, true)) (fun K => pvv prog (Instr.fieldAt 49 u_15 0) w K) w fun t_47 w =>
  gate (some (t_46, true)) (fun K => ldv prog (Instr.loadAt 3 t_47) w K) w fun t_48 w =>
  gate (some (t_46, true)) (fun K => pvv prog (oEq .eql 3 (.tmp 62) (.const (.int .i64 2)) t_48 (.int .i64 2)) w K) w fun t_49 w =>
  pv prog (oPick t_46 t_49 (.bool false)) w fun t_50 w =>
  gate (some (t_50, true)) (fun K => K t_21 w) w fun t_51 w =>
  gate (some (t_50, true)) (fun K => pvv prog (oEq .eql 36 (.tmp 66) (.const (.int .i64 13)) t_51 (.int .i64 13)) w K) w fun t_52 w =>
  pv prog (oPick t_50 t_52 (.bool false)) w fun t_53 w =>
  gate (some (t_53, true)) (fun K => K t_28 w) w fun t_54 w =>
  gate (some (t_53, true)) (fun K => pvv prog (oEq .eql 36 (.tmp 70) (.const (.int .i64 12)) t_54 (.int .i64 12)) w K) w fun t_55 w =>
  pv prog (oPick t_53 t_55 (.bool false)) w fun t_56 w =>
  K t_56 w)))))
theorem B8_eq (w : World) (K : Value → World → Prop) : denFn prog Tryz.f8 T8 [] w K = B8  w K := by kernel_rfl
theorem c8 {w : World} {K : Value → World → Prop} (h : B8  w K) : Calls prog 8 #[] w (Ret K) :=
  denFn_calls Tryz.func8 T8_ok (Eq.mpr (B8_eq  w K) h)

-- 25 (*holdfast/holdfastref12.Store).Access
def T25 : Ann := (.seq .none (.seq (.seq .none (.seq .none (.seq (.seq .none .none) .none))) (.seq (.seq .none (.seq (.seq .none .none) .none)) (.seq (.seq .none (.block (.loop 73786976294569771648 [9] (.seq (.seq .none (.seq .none .none)) (.seq (.block (.seq .none (.seq (.seq .none .none) .none))) .none))))) (.seq .none .none)))))
theorem T25_ok : chkFn prog Tryz.f25 T25 = true := by kernel_rfl
def B25 (s_p0 id_p1 now_p2 : Value) (w : World) (K : Value → World → Prop) : Prop :=
  efv prog (Instr.alloc 49 true (.tuple #[])) w fun t_0 w =>
  Calls prog 59 #[s_p0, now_p2] w (Ret fun t_1 w =>
  pvv prog (oEq .neq 36 (.tmp 13) (.const (.int .i64 0)) t_1 (.int .i64 0)) w fun t_2 w =>
  cd t_2 (
    pvv prog (Instr.build 49 #[]) w fun t_3 w =>
    efu prog (Instr.storeAt 49 t_0 t_3) w fun u_4 w =>
    ∃ r_5, (do loadVar 49 (← asAddr t_0)).run prog w = .ok r_5 w ∧ K (.tuple #[r_5, t_1]) w) <|
  pvv prog (binOp .lss 3 id_p1 (.int .i64 1)) w fun t_6 w =>
  gate (some (t_6, false)) (fun K => K id_p1 w) w fun t_7 w =>
  gate (some (t_6, false)) (fun K => K s_p0 w) w fun t_8 w =>
  gate (some (t_6, false)) (fun K => pv prog (oNil t_8) w K) w fun t_9 w =>
  gate (some (t_6, false)) (fun K => pvv prog (Instr.fieldAt 69 t_9 1) w K) w fun t_10 w =>
  gate (some (t_6, false)) (fun K => ldv prog (Instr.loadAt 3 t_10) w K) w fun t_11 w =>
  gate (some (t_6, false)) (fun K => pvv prog (binOp .geq 3 t_7 t_11) w K) w fun t_12 w =>
  pv prog (oPick t_6 (.bool true) t_12) w fun t_13 w =>
  cd t_13 (
    pvv prog (Instr.build 49 #[]) w fun t_14 w =>
    efu prog (Instr.storeAt 49 t_0 t_14) w fun u_15 w =>
    ∃ r_16, (do loadVar 49 (← asAddr t_0)).run prog w = .ok r_16 w ∧ K (.tuple #[r_16, (.int .i64 4)]) w) <|
  lp (fun σ w again_18 => pop σ fun i_17 σ => fin σ <|
    pv prog (oNil s_p0) w fun t_19 w =>
    pvv prog (Instr.fieldAt 69 t_19 4) w fun t_20 w =>
    ldv prog (Instr.loadAt 41 t_20) w fun t_21 w =>
    pv prog (oBi .len #[41] 3 #[false] #[t_21]) w fun t_22 w =>
    pvv prog (binOp .lss 3 i_17 t_22) w fun t_23 w =>
    cd t_23 (
      pv prog (oNil s_p0) w fun t_24 w =>
      pvv prog (Instr.fieldAt 69 t_24 4) w fun t_25 w =>
      ldv prog (Instr.loadAt 41 t_25) w fun t_26 w =>
      pvv prog (Instr.indexAt 41 t_26 i_17) w fun t_27 w =>
      pvv prog (Instr.fieldAt 49 t_27 0) w fun t_28 w =>
      ldv prog (Instr.loadAt 3 t_28) w fun t_29 w =>
      pvv prog (oEq .eql 3 (.tmp 44) (.tmp 45) t_29 id_p1) w fun t_30 w =>
      gate (some (t_30, true)) (fun K => K now_p2 w) w fun t_31 w =>
      gate (some (t_30, true)) (fun K => K s_p0 w) w fun t_32 w =>
      gate (some (t_30, true)) (fun K => pv prog (oNil t_32) w K) w fun t_33 w =>
      gate (some (t_30, true)) (fun K => pvv prog (Instr.fieldAt 69 t_33 4) w K) w fun t_34 w =>
      gate (some (t_30, true)) (fun K => ldv prog (Instr.loadAt 41 t_34) w K) w fun t_35 w =>
      gate (some (t_30, true)) (fun K => K i_17 w) w fun t_36 w =>
      gate (some (t_30, true)) (fun K => pvv prog (Instr.indexAt 41 t_35 t_36) w K) w fun t_37 w =>
      gate (some (t_30, true)) (fun K => pvv prog (Instr.fieldAt 49 t_37 3) w K) w fun t_38 w =>
      gate (some (t_30, true)) (fun K => ldv prog (Instr.loadAt 3 t_38) w K) w fun t_39 w =>
      gate (some (t_30, true)) (fun K => pvv prog (binOp .lss 3 t_31 t_39) w K) w fun t_40 w =>
      pv prog (oPick t_30 t_40 (.bool false)) w fun t_41 w =>
      cd t_41 (
        pv prog (oNil s_p0) w fun t_42 w =>
        pvv prog (Instr.fieldAt 69 t_42 4) w fun t_43 w =>
        ldv prog (Instr.loadAt 41 t_43) w fun t_44 w =>
        pvv prog (Instr.indexAt 41 t_44 i_17) w fun t_45 w =>
        ldv prog (Instr.loadAt 49 t_45) w fun t_46 w =>
        efu prog (Instr.storeAt 49 t_0 t_46) w fun u_47 w =>
        ∃ r_48, (do loadVar 49 (← asAddr t_0)).run prog w = .ok r_48 w ∧ K (.tuple #[r_48, (.int .i64 0)]) w) <|
      pvv prog (binOp .add 3 i_17 (.int .i64 1)) w fun t_49 w =>
      again_18 [t_49] w) <|
    pvv prog (Instr.build 49 #[]) w fun t_50 w =>
    efu prog (Instr.storeAt 49 t_0 t_50) w fun u_51 w =>
    ∃ r_52, (do loadVar 49 (← asAddr t_0)).run prog w = .ok r_52 w ∧ K (.tuple #[r_52, (.int .i64 12)]) w) [(.int .i64 0)] w)
theorem B25_eq (s_p0 id_p1 now_p2 : Value) (w : World) (K : Value → World → Prop) : denFn prog Tryz.f25 T25 [s_p0, id_p1, now_p2] w K = B25 s_p0 id_p1 now_p2 w K := by kernel_rfl
theorem c25 {s_p0 id_p1 now_p2 : Value} {w : World} {K : Value → World → Prop} (h : B25 s_p0 id_p1 now_p2 w K) : Calls prog 25 #[s_p0, id_p1, now_p2] w (Ret K) :=
  denFn_calls Tryz.func25 T25_ok (Eq.mpr (B25_eq s_p0 id_p1 now_p2 w K) h)

-- 26 (*holdfast/holdfastref12.Store).Exchange
def T26 : Ann := (.seq .none (.seq .none (.seq (.block (.seq .none (.seq (.seq .none .none) (.seq .none (.seq (.seq .none .none) (.seq .none (.seq (.seq .none .none) .none))))))) (.seq .none (.seq .none .none)))))
theorem T26_ok : chkFn prog Tryz.f26 T26 = true := by kernel_rfl
def B26 (s_p0 id_p1 scopes_p2 now_p3 : Value) (w : World) (K : Value → World → Prop) : Prop :=
  efv prog (Instr.alloc 49 true (.tuple #[])) w fun t_0 w =>
  Calls prog 25 #[s_p0, id_p1, now_p3] w (Ret fun t_1 w =>
  pvv prog (Instr.extract t_1 0) w fun t_2 w =>
  pvv prog (Instr.extract t_1 1) w fun t_3 w =>
  efv prog (Instr.alloc 49 true (.tuple #[])) w fun x_4 w =>
  efu prog (Instr.storeAt 49 x_4 t_2) w fun u_5 w =>
  pvv prog (oEq .neq 36 (.tmp 20) (.const (.int .i64 0)) t_3 (.int .i64 0)) w fun t_6 w =>
  cd t_6 (
    pvv prog (Instr.build 49 #[]) w fun t_7 w =>
    efu prog (Instr.storeAt 49 t_0 t_7) w fun u_8 w =>
    ∃ r_9, (do loadVar 49 (← asAddr t_0)).run prog w = .ok r_9 w ∧ K (.tuple #[r_9, t_3]) w) <|
  pvv prog (Instr.fieldAt 49 x_4 2) w fun t_10 w =>
  ldv prog (Instr.loadAt 30 t_10) w fun t_11 w =>
  pvv prog (binOp .and 30 scopes_p2 t_11) w fun t_12 w =>
  pvv prog (oEq .neq 30 (.tmp 28) (.tmp 29) t_12 scopes_p2) w fun t_13 w =>
  cd t_13 (
    pvv prog (Instr.build 49 #[]) w fun t_14 w =>
    efu prog (Instr.storeAt 49 t_0 t_14) w fun u_15 w =>
    ∃ r_16, (do loadVar 49 (← asAddr t_0)).run prog w = .ok r_16 w ∧ K (.tuple #[r_16, (.int .i64 14)]) w) <|
  pv prog (oNil s_p0) w fun t_17 w =>
  pvv prog (Instr.fieldAt 69 t_17 1) w fun t_18 w =>
  ldv prog (Instr.loadAt 3 t_18) w fun t_19 w =>
  pvv prog (binOp .gtr 3 t_19 (.int .i64 1099511627776)) w fun t_20 w =>
  cd t_20 (
    pvv prog (Instr.build 49 #[]) w fun t_21 w =>
    efu prog (Instr.storeAt 49 t_0 t_21) w fun u_22 w =>
    ∃ r_23, (do loadVar 49 (← asAddr t_0)).run prog w = .ok r_23 w ∧ K (.tuple #[r_23, (.int .i64 7)]) w) <|
  pv prog (oNil s_p0) w fun t_24 w =>
  pvv prog (Instr.fieldAt 69 t_24 2) w fun t_25 w =>
  efu prog (Instr.storeAt 3 t_25 now_p3) w fun u_26 w =>
  pvv prog (Instr.fieldAt 49 x_4 1) w fun t_27 w =>
  ldv prog (Instr.loadAt 3 t_27) w fun t_28 w =>
  pvv prog (Instr.fieldAt 49 x_4 3) w fun t_29 w =>
  ldv prog (Instr.loadAt 3 t_29) w fun t_30 w =>
  Calls prog 58 #[s_p0, t_28, scopes_p2, t_30] w (Ret fun t_31 w =>
  efu prog (Instr.storeAt 49 t_0 t_31) w fun u_32 w =>
  ∃ r_33, (do loadVar 49 (← asAddr t_0)).run prog w = .ok r_33 w ∧ K (.tuple #[r_33, (.int .i64 0)]) w))
theorem B26_eq (s_p0 id_p1 scopes_p2 now_p3 : Value) (w : World) (K : Value → World → Prop) : denFn prog Tryz.f26 T26 [s_p0, id_p1, scopes_p2, now_p3] w K = B26 s_p0 id_p1 scopes_p2 now_p3 w K := by kernel_rfl
theorem c26 {s_p0 id_p1 scopes_p2 now_p3 : Value} {w : World} {K : Value → World → Prop} (h : B26 s_p0 id_p1 scopes_p2 now_p3 w K) : Calls prog 26 #[s_p0, id_p1, scopes_p2, now_p3] w (Ret K) :=
  denFn_calls Tryz.func26 T26_ok (Eq.mpr (B26_eq s_p0 id_p1 scopes_p2 now_p3 w K) h)

-- 110 unicode/utf8.DecodeLastRuneInString
def T110 : Ann := (.seq .none (.seq .none (.seq (.seq .none (.seq (.seq .none .none) .none)) (.seq .none (.seq .none (.seq (.seq .none (.seq (.seq .none .none) .none)) (.seq .none (.meet 17171480608 [5] (.seq .none (.block (.loop 17146314784 [5] (.seq (.seq .none (.seq .none .none)) (.seq (.block (.seq .none (.seq .none .none))) .none))))) (.meet 51539607584 [5] (.seq .none (.seq .none .none)) (.seq .none (.seq (.seq .none (.seq (.seq .none .none) .none)) (.seq .none .none))))))))))))
theorem T110_ok : chkFn prog Tryz.f110 T110 = true := by kernel_rfl
def B110 (s_p0 : Value) (w : World) (K : Value → World → Prop) : Prop :=
  pv prog (oBi .len #[9] 3 #[false] #[s_p0]) w fun t_0 w =>
  pvv prog (oEq .eql 3 (.tmp 9) (.const (.int .i64 0)) t_0 (.int .i64 0)) w fun t_1 w =>
  cd t_1 (
    K (.tuple #[(.int .i32 65533), (.int .i64 0)]) w) <|
  pvv prog (binOp .sub 3 t_0 (.int .i64 1)) w fun t_2 w =>
  pvv prog (Instr.index 9 s_p0 t_2) w fun t_3 w =>
  pvv prog (convert 5 21 t_3) w fun t_4 w =>
  pvv prog (binOp .lss 21 t_4 (.int .i32 128)) w fun t_5 w =>
  cd t_5 (
    K (.tuple #[t_4, (.int .i64 1)]) w) <|
  pvv prog (binOp .sub 3 t_0 (.int .i64 4)) w fun t_6 w =>
  pv prog (oBi .max #[3, 3] 3 #[false, true] #[t_6, (.int .i64 0)]) w fun t_7 w =>
  jn (fun σ w => pop σ fun start_8 σ => fin σ <|
    jn (fun σ w => pop σ fun start_9 σ => fin σ <|
      pvv prog (Instr.sliceAt 9 s_p0 (some start_9) (some t_0) none) w fun t_10 w =>
      Calls prog 108 #[t_10] w (Ret fun t_11 w =>
      pvv prog (Instr.extract t_11 0) w fun t_12 w =>
      pvv prog (Instr.extract t_11 1) w fun t_13 w =>
      pvv prog (binOp .add 3 start_9 t_13) w fun t_14 w =>
      pvv prog (oEq .neq 3 (.tmp 46) (.tmp 47) t_14 t_0) w fun t_15 w =>
      cd t_15 (
        K (.tuple #[(.int .i32 65533), (.int .i64 1)]) w) <|
      K (.tuple #[t_12, t_13]) w)) fun k_16 =>
    pvv prog (binOp .lss 3 start_8 (.int .i64 0)) w fun t_17 w =>
    cd t_17 (
      k_16 [(.int .i64 0)] w) <|
    k_16 [start_8] w) fun k_18 =>
  pvv prog (binOp .sub 3 t_2 (.int .i64 1)) w fun t_19 w =>
  lp (fun σ w again_21 => pop σ fun start_20 σ => fin σ <|
    pvv prog (binOp .geq 3 start_20 t_7) w fun t_22 w =>
    cd t_22 (
      pvv prog (Instr.index 9 s_p0 start_20) w fun t_23 w =>
      Calls prog 128 #[t_23] w (Ret fun t_24 w =>
      cd t_24 (
        k_18 [start_20] w) <|
      pvv prog (binOp .sub 3 start_20 (.int .i64 1)) w fun t_25 w =>
      again_21 [t_25] w)) <|
    k_18 [start_20] w) [t_19] w
theorem B110_eq (s_p0 : Value) (w : World) (K : Value → World → Prop) : denFn prog Tryz.f110 T110 [s_p0] w K = B110 s_p0 w K := by kernel_rfl
theorem c110 {s_p0 : Value} {w : World} {K : Value → World → Prop} (h : B110 s_p0 w K) : Calls prog 110 #[s_p0] w (Ret K) :=
  denFn_calls Tryz.func110 T110_ok (Eq.mpr (B110_eq s_p0 w K) h)

-- 51 (*holdfast/token.Store).fresh
def T51 : Ann := (.seq .none (.seq .none (.seq (.draw [.op 0 .pure, .op 1 .pure, .op 2 .pure, .op 3 .pure, .op 5 .pure, .op 4 .load, .op 6 .load, .op 7 .load, .op 8 .eff]) (.seq .none (.seq .none .none)))))
theorem T51_ok : chkFn prog Tryz.f51 T51 = true := by kernel_rfl
def B51 (s_p0 family_p1 scopes_p2 until_p3 : Value) (w : World) (K : Value → World → Prop) : Prop :=
  efv prog (Instr.alloc 49 true (.tuple #[])) w fun t_0 w =>
  pv prog (oNil s_p0) w fun t_1 w =>
  pvv prog (Instr.fieldAt 67 t_1 1) w fun t_2 w =>
  pvv prog (Instr.fieldAt 65 t_2 0) w fun t_3 w =>
  ldv prog (Instr.loadAt 3 t_3) w fun t_4 w =>
  pv prog (oBi .min #[3, 3] 3 #[false, true] #[until_p3, (.int .i64 1099511627776)]) w fun t_5 w =>
  pvv prog (Instr.build 49 #[(0, t_4), (1, family_p1), (2, scopes_p2), (3, t_5)]) w fun t_6 w =>
  efv prog (Instr.alloc 49 true (.tuple #[])) w fun t_7 w =>
  efu prog (Instr.storeAt 49 t_7 t_6) w fun u_8 w =>
  dr w fun w =>
  pv prog (oNil s_p0) w fun t_9 w =>
  pvv prog (Instr.fieldAt 67 t_9 1) w fun t_10 w =>
  pvv prog (Instr.fieldAt 65 t_10 1) w fun t_11 w =>
  pvv prog (Instr.fieldAt 49 t_7 0) w fun t_12 w =>
  bindS (vN (Instr.loadAt 63 t_11)) fun m_14 => ldv prog (Instr.loadAt 63 t_11) w fun t_13 w =>
  bindS (vN (Instr.loadAt 3 t_12)) fun m_16 => ldv prog (Instr.loadAt 3 t_12) w fun t_15 w =>
  bindS (vN (Instr.loadAt 49 t_7)) fun m_18 => ldv prog (Instr.loadAt 49 t_7) w fun t_17 w =>
  efu prog (Instr.mapUpdate 63 t_13 t_15 t_17) w fun u_19 w =>
  pv prog (oNil s_p0) w fun t_20 w =>
  pvv prog (Instr.fieldAt 67 t_20 1) w fun t_21 w =>
  pvv prog (Instr.fieldAt 65 t_21 0) w fun t_22 w =>
  ldv prog (Instr.loadAt 3 t_22) w fun t_23 w =>
  pvv prog (binOp .add 3 t_23 (.int .i64 1)) w fun t_24 w =>
  pv prog (oNil s_p0) w fun t_25 w =>
  pvv prog (Instr.fieldAt 67 t_25 1) w fun t_26 w =>
  pvv prog (Instr.fieldAt 65 t_26 0) w fun t_27 w =>
  efu prog (Instr.storeAt 3 t_27 t_24) w fun u_28 w =>
  ldv prog (Instr.loadAt 49 t_7) w fun t_29 w =>
  efu prog (Instr.storeAt 49 t_0 t_29) w fun u_30 w =>
  ∃ r_31, (do loadVar 49 (← asAddr t_0)).run prog w = .ok r_31 w ∧ K r_31 w
theorem B51_eq (s_p0 family_p1 scopes_p2 until_p3 : Value) (w : World) (K : Value → World → Prop) : denFn prog Tryz.f51 T51 [s_p0, family_p1, scopes_p2, until_p3] w K = B51 s_p0 family_p1 scopes_p2 until_p3 w K := by kernel_rfl
theorem c51 {s_p0 family_p1 scopes_p2 until_p3 : Value} {w : World} {K : Value → World → Prop} (h : B51 s_p0 family_p1 scopes_p2 until_p3 w K) : Calls prog 51 #[s_p0, family_p1, scopes_p2, until_p3] w (Ret K) :=
  denFn_calls Tryz.func51 T51_ok (Eq.mpr (B51_eq s_p0 family_p1 scopes_p2 until_p3 w K) h)

-- 60 (*holdfast/holdfastref12.Store).find
def T60 : Ann := (.seq .none (.seq (.seq .none (.seq (.seq .none .none) .none)) (.seq (.seq .none (.block (.loop 137438822512 [6] (.seq (.seq .none (.seq .none .none)) (.seq (.block (.seq .none (.seq (.seq .none .none) .none))) .none))))) (.seq .none .none))))
theorem T60_ok : chkFn prog Tryz.f60 T60 = true := by kernel_rfl
def B60 (s_p0 id_p1 : Value) (w : World) (K : Value → World → Prop) : Prop :=
  pvv prog (binOp .lss 3 id_p1 (.int .i64 1)) w fun t_0 w =>
  gate (some (t_0, false)) (fun K => K id_p1 w) w fun t_1 w =>
  gate (some (t_0, false)) (fun K => K s_p0 w) w fun t_2 w =>
  gate (some (t_0, false)) (fun K => pv prog (oNil t_2) w K) w fun t_3 w =>
  gate (some (t_0, false)) (fun K => pvv prog (Instr.fieldAt 69 t_3 0) w K) w fun t_4 w =>
  gate (some (t_0, false)) (fun K => ldv prog (Instr.loadAt 3 t_4) w K) w fun t_5 w =>
  gate (some (t_0, false)) (fun K => pvv prog (binOp .geq 3 t_1 t_5) w K) w fun t_6 w =>
  pv prog (oPick t_0 (.bool true) t_6) w fun t_7 w =>
  cd t_7 (
    K (.tuple #[(.int .i64 (-1)), (.int .i64 4)]) w) <|
  lp (fun σ w again_9 => pop σ fun i_8 σ => fin σ <|
    pv prog (oNil s_p0) w fun t_10 w =>
    pvv prog (Instr.fieldAt 69 t_10 3) w fun t_11 w =>
    ldv prog (Instr.loadAt 43 t_11) w fun t_12 w =>
    pv prog (oBi .len #[43] 3 #[false] #[t_12]) w fun t_13 w =>
    pvv prog (binOp .lss 3 i_8 t_13) w fun t_14 w =>
    cd t_14 (
      pv prog (oNil s_p0) w fun t_15 w =>
      pvv prog (Instr.fieldAt 69 t_15 3) w fun t_16 w =>
      ldv prog (Instr.loadAt 43 t_16) w fun t_17 w =>
      pvv prog (Instr.indexAt 43 t_17 i_8) w fun t_18 w =>
      pvv prog (Instr.fieldAt 35 t_18 0) w fun t_19 w =>
      ldv prog (Instr.loadAt 3 t_19) w fun t_20 w =>
      pvv prog (oEq .eql 3 (.tmp 33) (.tmp 34) t_20 id_p1) w fun t_21 w =>
      cd t_21 (
        K (.tuple #[i_8, (.int .i64 0)]) w) <|
      pvv prog (binOp .add 3 i_8 (.int .i64 1)) w fun t_22 w =>
      again_9 [t_22] w) <|
    K (.tuple #[(.int .i64 (-1)), (.int .i64 12)]) w) [(.int .i64 0)] w
theorem B60_eq (s_p0 id_p1 : Value) (w : World) (K : Value → World → Prop) : denFn prog Tryz.f60 T60 [s_p0, id_p1] w K = B60 s_p0 id_p1 w K := by kernel_rfl
theorem c60 {s_p0 id_p1 : Value} {w : World} {K : Value → World → Prop} (h : B60 s_p0 id_p1 w K) : Calls prog 60 #[s_p0, id_p1] w (Ret K) :=
  denFn_calls Tryz.func60 T60_ok (Eq.mpr (B60_eq s_p0 id_p1 w K) h)

-- 41 holdfast/token.all[holdfast/api.Family]
def T41 : Ann := (.seq .none (.seq .none (.seq (.seq .none (.block (.loop 2147475616 [5, 13] (.seq .none (.seq (.seq .none .none) (.meet 1073709216 [5] (.block (.seq .none (.seq .none (.seq .none .none)))) .none)))))) (.seq .none .none))))
theorem T41_ok : chkFn prog Tryz.f41 T41 = true := by kernel_rfl
def B41 (r_p0 is_p1 : Value) (w : World) (K : Value → World → Prop) : Prop :=
  efv prog (Instr.box 62 r_p0) w fun r_0 w =>
  pvv prog (Instr.fieldAt 62 r_0 1) w fun t_1 w =>
  ldv prog (Instr.loadAt 60 t_1) w fun t_2 w =>
  Calls prog 67 #[t_2] w (Ret fun t_3 w =>
  Calls prog 65 #[t_3] w (Ret fun t_4 w =>
  pv prog (oBi .len #[23] 3 #[false] #[t_4]) w fun t_5 w =>
  lp (fun σ w again_8 => pop σ fun out_6 σ => pop σ fun t_7 σ => fin σ <|
    pvv prog (binOp .lss 3 t_7 t_5) w fun t_9 w =>
    cd t_9 (
      jn (fun σ w => pop σ fun out_10 σ => fin σ <|
        pvv prog (binOp .add 3 t_7 (.int .i64 1)) w fun t_11 w =>
        again_8 [out_10, t_11] w) fun k_12 =>
      pvv prog (Instr.indexAt 23 t_4 t_7) w fun t_13 w =>
      ldv prog (Instr.loadAt 3 t_13) w fun t_14 w =>
      pvv prog (Instr.fieldAt 62 r_0 1) w fun t_15 w =>
      ldv prog (Instr.loadAt 60 t_15) w fun t_16 w =>
      ldv prog (Instr.lookup 60 t_16 t_14 false) w fun t_17 w =>
      ef prog (oCall is_p1 #[t_17]) w fun t_18 w =>
      cd t_18 (
        pvv prog (Instr.fieldAt 62 r_0 1) w fun t_19 w =>
        ldv prog (Instr.loadAt 60 t_19) w fun t_20 w =>
        ldv prog (Instr.lookup 60 t_20 t_14 false) w fun t_21 w =>
        efv prog (Instr.buildSlice 43 1 #[(0, t_21)]) w fun t_22 w =>
        ef prog (oBi .append #[43, 43] 43 #[false, false] #[out_6, t_22]) w fun t_23 w =>
        k_12 [t_23] w) <|
      k_12 [out_6] w) <|
    K out_6 w) [(.slice none 0 0), (.int .i64 0)] w))
theorem B41_eq (r_p0 is_p1 : Value) (w : World) (K : Value → World → Prop) : denFn prog Tryz.f41 T41 [r_p0, is_p1] w K = B41 r_p0 is_p1 w K := by kernel_rfl
theorem c41 {r_p0 is_p1 : Value} {w : World} {K : Value → World → Prop} (h : B41 r_p0 is_p1 w K) : Calls prog 41 #[r_p0, is_p1] w (Ret K) :=
  denFn_calls Tryz.func41 T41_ok (Eq.mpr (B41_eq r_p0 is_p1 w K) h)

-- 97 strings.trimRightUnicode
def T97 : Ann := (.seq .none (.meet 8589934561 [0] (.block (.loop 8589934561 [0] (.seq (.seq .none (.seq .none .none)) (.block (.seq .none (.meet 8323168 [5, 6] (.seq .none (.seq .none .none)) (.seq (.seq .none (.seq .none .none)) .none))))))) (.seq .none .none)))
theorem T97_ok : chkFn prog Tryz.f97 T97 = true := by kernel_rfl
def B97 (s_p0 cutset_p1 : Value) (w : World) (K : Value → World → Prop) : Prop :=
  jn (fun σ w => pop σ fun s_0 σ => fin σ <|
    K s_0 w) fun k_1 =>
  lp (fun σ w again_3 => pop σ fun s_2 σ => fin σ <|
    pv prog (oBi .len #[9] 3 #[false] #[s_2]) w fun t_4 w =>
    pvv prog (binOp .gtr 3 t_4 (.int .i64 0)) w fun t_5 w =>
    cd t_5 (
      pv prog (oBi .len #[9] 3 #[false] #[s_2]) w fun t_6 w =>
      pvv prog (binOp .sub 3 t_6 (.int .i64 1)) w fun t_7 w =>
      pvv prog (Instr.index 9 s_2 t_7) w fun t_8 w =>
      pvv prog (convert 5 21 t_8) w fun t_9 w =>
      jn (fun σ w => pop σ fun r_10 σ => pop σ fun n_11 σ => fin σ <|
        Calls prog 109 #[cutset_p1, r_10] w (Ret fun t_12 w =>
        pvv prog (Op.unary .not t_12) w fun t_13 w =>
        cd t_13 (
          k_1 [s_2] w) <|
        pv prog (oBi .len #[9] 3 #[false] #[s_2]) w fun t_14 w =>
        pvv prog (binOp .sub 3 t_14 n_11) w fun t_15 w =>
        pvv prog (Instr.sliceAt 9 s_2 none (some t_15) none) w fun t_16 w =>
        again_3 [t_16] w)) fun k_17 =>
      pvv prog (binOp .geq 21 t_9 (.int .i32 128)) w fun t_18 w =>
      cd t_18 (
        Calls prog 110 #[s_2] w (Ret fun t_19 w =>
        pvv prog (Instr.extract t_19 0) w fun t_20 w =>
        pvv prog (Instr.extract t_19 1) w fun t_21 w =>
        k_17 [t_20, t_21] w)) <|
      k_17 [t_9, (.int .i64 1)] w) <|
    k_1 [s_2] w) [s_p0] w
theorem B97_eq (s_p0 cutset_p1 : Value) (w : World) (K : Value → World → Prop) : denFn prog Tryz.f97 T97 [s_p0, cutset_p1] w K = B97 s_p0 cutset_p1 w K := by kernel_rfl
theorem c97 {s_p0 cutset_p1 : Value} {w : World} {K : Value → World → Prop} (h : B97 s_p0 cutset_p1 w K) : Calls prog 97 #[s_p0, cutset_p1] w (Ret K) :=
  denFn_calls Tryz.func97 T97_ok (Eq.mpr (B97_eq s_p0 cutset_p1 w K) h)

-- 28 holdfast/holdfastref01.SameInts
def T28 : Ann := (.seq .none (.seq (.seq .none (.seq (.seq .none .none) .none)) (.seq (.seq .none (.block (.loop 67106864 [5] (.seq (.seq .none (.seq .none .none)) (.seq (.block (.seq (.draw [.op 0 .pure, .op 1 .pure, .op 2 .pure, .op 4 .pure, .op 5 .pure, .op 6 .pure, .op 3 .load, .op 7 .load, .op 8 .pure]) (.seq (.seq .none .none) .none))) .none))))) (.seq .none .none))))
theorem T28_ok : chkFn prog Tryz.f28 T28 = true := by kernel_rfl
def B28 (a_p0 b_p1 : Value) (w : World) (K : Value → World → Prop) : Prop :=
  pv prog (oBi .len #[23] 3 #[false] #[a_p0]) w fun t_0 w =>
  pv prog (oBi .len #[23] 3 #[false] #[b_p1]) w fun t_1 w =>
  pvv prog (oEq .neq 3 (.tmp 7) (.tmp 9) t_0 t_1) w fun t_2 w =>
  cd t_2 (
    K (.bool false) w) <|
  lp (fun σ w again_4 => pop σ fun i_3 σ => fin σ <|
    pv prog (oBi .len #[23] 3 #[false] #[a_p0]) w fun t_5 w =>
    pvv prog (binOp .lss 3 i_3 t_5) w fun t_6 w =>
    cd t_6 (
      dr w fun w =>
      pvv prog (Instr.indexAt 23 a_p0 i_3) w fun t_7 w =>
      pvv prog (Instr.indexAt 23 b_p1 i_3) w fun t_8 w =>
      bindS (vN (Instr.loadAt 3 t_7)) fun m_10 => ldv prog (Instr.loadAt 3 t_7) w fun t_9 w =>
      bindS (vN (Instr.loadAt 3 t_8)) fun m_12 => ldv prog (Instr.loadAt 3 t_8) w fun t_11 w =>
      pvv prog (oEq .neq 3 (.tmp 20) (.tmp 24) t_9 t_11) w fun t_13 w =>
      cd t_13 (
        K (.bool false) w) <|
      pvv prog (binOp .add 3 i_3 (.int .i64 1)) w fun t_14 w =>
      again_4 [t_14] w) <|
    K (.bool true) w) [(.int .i64 0)] w
theorem B28_eq (a_p0 b_p1 : Value) (w : World) (K : Value → World → Prop) : denFn prog Tryz.f28 T28 [a_p0, b_p1] w K = B28 a_p0 b_p1 w K := by kernel_rfl
theorem c28 {a_p0 b_p1 : Value} {w : World} {K : Value → World → Prop} (h : B28 a_p0 b_p1 w K) : Calls prog 28 #[a_p0, b_p1] w (Ret K) :=
  denFn_calls Tryz.func28 T28_ok (Eq.mpr (B28_eq a_p0 b_p1 w K) h)

-- 52 (*holdfast/token.Store).drop
def T52 : Ann := (.seq .none (.seq (.draw [.op 0 .pure, .op 1 .pure, .op 2 .pure, .op 3 .pure, .op 4 .load, .op 5 .load, .op 6 .eff]) .none))
theorem T52_ok : chkFn prog Tryz.f52 T52 = true := by kernel_rfl
def B52 (s_p0 id_p1 : Value) (w : World) (K : Value → World → Prop) : Prop :=
  efv prog (Instr.box 3 id_p1) w fun id_0 w =>
  dr w fun w =>
  pv prog (oNil s_p0) w fun t_1 w =>
  pvv prog (Instr.fieldAt 67 t_1 0) w fun t_2 w =>
  pvv prog (Instr.fieldAt 62 t_2 1) w fun t_3 w =>
  bindS (vN (Instr.loadAt 60 t_3)) fun m_5 => ldv prog (Instr.loadAt 60 t_3) w fun t_4 w =>
  bindS (vN (Instr.loadAt 3 id_0)) fun m_7 => ldv prog (Instr.loadAt 3 id_0) w fun t_6 w =>
  ef prog (oBi .delete #[60, 3] 0 #[false, false] #[t_4, t_6]) w fun u_8 w =>
  pv prog (oNil s_p0) w fun t_9 w =>
  pvv prog (Instr.fieldAt 67 t_9 1) w fun t_10 w =>
  pvv prog (Instr.fieldAt 65 t_10 1) w fun t_11 w =>
  ldv prog (Instr.loadAt 63 t_11) w fun t_12 w =>
  pvv prog (Instr.makeFunc (.func 73) #[] #[id_0]) w fun t_13 w =>
  Calls prog 54 #[t_12, t_13] w (Ret fun t_14 w =>
  K (.tuple #[]) w)
theorem B52_eq (s_p0 id_p1 : Value) (w : World) (K : Value → World → Prop) : denFn prog Tryz.f52 T52 [s_p0, id_p1] w K = B52 s_p0 id_p1 w K := by kernel_rfl
theorem c52 {s_p0 id_p1 : Value} {w : World} {K : Value → World → Prop} (h : B52 s_p0 id_p1 w K) : Calls prog 52 #[s_p0, id_p1] w (Ret K) :=
  denFn_calls Tryz.func52 T52_ok (Eq.mpr (B52_eq s_p0 id_p1 w K) h)

-- 59 (*holdfast/holdfastref12.Store).time
def T59 : Ann := (.seq .none (.seq (.block (.seq .none (.seq (.seq .none .none) (.seq .none (.seq (.seq .none .none) (.seq .none (.seq (.seq .none .none) .none))))))) (.seq .none .none)))
theorem T59_ok : chkFn prog Tryz.f59 T59 = true := by kernel_rfl
def B59 (s_p0 now_p1 : Value) (w : World) (K : Value → World → Prop) : Prop :=
  pvv prog (oEq .eql 26 (.tmp 6) (.const (.pointer none)) s_p0 (.pointer none)) w fun t_0 w =>
  cd t_0 (
    K (.int .i64 1) w) <|
  pvv prog (binOp .lss 3 now_p1 (.int .i64 0)) w fun t_1 w =>
  gate (some (t_1, false)) (fun K => K now_p1 w) w fun t_2 w =>
  gate (some (t_1, false)) (fun K => pvv prog (binOp .gtr 3 t_2 (.int .i64 1099511627776)) w K) w fun t_3 w =>
  pv prog (oPick t_1 (.bool true) t_3) w fun t_4 w =>
  cd t_4 (
    K (.int .i64 2) w) <|
  pv prog (oNil s_p0) w fun t_5 w =>
  pvv prog (Instr.fieldAt 69 t_5 2) w fun t_6 w =>
  ldv prog (Instr.loadAt 3 t_6) w fun t_7 w =>
  pvv prog (binOp .lss 3 now_p1 t_7) w fun t_8 w =>
  cd t_8 (
    K (.int .i64 9) w) <|
  K (.int .i64 0) w
theorem B59_eq (s_p0 now_p1 : Value) (w : World) (K : Value → World → Prop) : denFn prog Tryz.f59 T59 [s_p0, now_p1] w K = B59 s_p0 now_p1 w K := by kernel_rfl
theorem c59 {s_p0 now_p1 : Value} {w : World} {K : Value → World → Prop} (h : B59 s_p0 now_p1 w K) : Calls prog 59 #[s_p0, now_p1] w (Ret K) :=
  denFn_calls Tryz.func59 T59_ok (Eq.mpr (B59_eq s_p0 now_p1 w K) h)

-- 91 strings.trimLeftByte
def T91 : Ann := (.seq .none (.seq (.block (.loop 65505 [0] (.seq (.seq .none (.seq .none .none)) (.block .none)))) (.seq .none .none)))
theorem T91_ok : chkFn prog Tryz.f91 T91 = true := by kernel_rfl
def B91 (s_p0 c_p1 : Value) (w : World) (K : Value → World → Prop) : Prop :=
  lp (fun σ w again_1 => pop σ fun s_0 σ => fin σ <|
    pv prog (oBi .len #[9] 3 #[false] #[s_0]) w fun t_2 w =>
    pvv prog (binOp .gtr 3 t_2 (.int .i64 0)) w fun t_3 w =>
    gate (some (t_3, true)) (fun K => K s_0 w) w fun t_4 w =>
    gate (some (t_3, true)) (fun K => pvv prog (Instr.index 9 t_4 (.int .i64 0)) w K) w fun t_5 w =>
    gate (some (t_3, true)) (fun K => K c_p1 w) w fun t_6 w =>
    gate (some (t_3, true)) (fun K => pvv prog (oEq .eql 5 (.tmp 10) (.tmp 11) t_5 t_6) w K) w fun t_7 w =>
    pv prog (oPick t_3 t_7 (.bool false)) w fun t_8 w =>
    cd t_8 (
      pvv prog (Instr.sliceAt 9 s_0 (some (.int .i64 1)) none none) w fun t_9 w =>
      again_1 [t_9] w) <|
    K s_0 w) [s_p0] w
theorem B91_eq (s_p0 c_p1 : Value) (w : World) (K : Value → World → Prop) : denFn prog Tryz.f91 T91 [s_p0, c_p1] w K = B91 s_p0 c_p1 w K := by kernel_rfl
theorem c91 {s_p0 c_p1 : Value} {w : World} {K : Value → World → Prop} (h : B91 s_p0 c_p1 w K) : Calls prog 91 #[s_p0, c_p1] w (Ret K) :=
  denFn_calls Tryz.func91 T91_ok (Eq.mpr (B91_eq s_p0 c_p1 w K) h)

-- 35 (*holdfast/token.Store).EndClient$1
def T35 : Ann := (.seq .none (.seq .none .none))
theorem T35_ok : chkFn prog Tryz.f35 T35 = true := by kernel_rfl
def B35 (f_p0 x_p1 x_p2 : Value) (w : World) (K : Value → World → Prop) : Prop :=
  efv prog (Instr.box 35 f_p0) w fun f_0 w =>
  pvv prog (Instr.fieldAt 35 f_0 2) w fun t_1 w =>
  ldv prog (Instr.loadAt 9 t_1) w fun t_2 w =>
  ldv prog (Instr.loadAt 9 x_p1) w fun t_3 w =>
  pvv prog (oEq .eql 9 (.tmp 6) (.tmp 7) t_2 t_3) w fun t_4 w =>
  gate (some (t_4, true)) (fun K => ldv prog (Instr.loadAt 23 x_p2) w K) w fun t_5 w =>
  gate (some (t_4, true)) (fun K => pvv prog (Instr.fieldAt 35 f_0 1) w K) w fun t_6 w =>
  gate (some (t_4, true)) (fun K => ldv prog (Instr.loadAt 3 t_6) w K) w fun t_7 w =>
  gate (some (t_4, true)) (fun K => Calls prog 36 #[t_5, t_7] w (Ret K)) w fun t_8 w =>
  pv prog (oPick t_4 t_8 (.bool false)) w fun t_9 w =>
  K t_9 w
theorem B35_eq (f_p0 x_p1 x_p2 : Value) (w : World) (K : Value → World → Prop) : denFn prog Tryz.f35 T35 [f_p0, x_p1, x_p2] w K = B35 f_p0 x_p1 x_p2 w K := by kernel_rfl
theorem c35 {f_p0 x_p1 x_p2 : Value} {w : World} {K : Value → World → Prop} (h : B35 f_p0 x_p1 x_p2 w K) : Calls prog 35 #[f_p0, x_p1, x_p2] w (Ret K) :=
  denFn_calls Tryz.func35 T35_ok (Eq.mpr (B35_eq f_p0 x_p1 x_p2 w K) h)

-- 74 holdfast/holdfastref12.in
def T74 : Ann := (.seq .none (.seq (.seq .none (.block (.loop 262128 [5] (.seq (.seq .none (.seq .none .none)) (.seq (.block (.seq .none (.seq (.seq .none .none) .none))) .none))))) (.seq .none .none)))
theorem T74_ok : chkFn prog Tryz.f74 T74 = true := by kernel_rfl
def B74 (l_p0 n_p1 : Value) (w : World) (K : Value → World → Prop) : Prop :=
  lp (fun σ w again_1 => pop σ fun i_0 σ => fin σ <|
    pv prog (oBi .len #[23] 3 #[false] #[l_p0]) w fun t_2 w =>
    pvv prog (binOp .lss 3 i_0 t_2) w fun t_3 w =>
    cd t_3 (
      pvv prog (Instr.indexAt 23 l_p0 i_0) w fun t_4 w =>
      ldv prog (Instr.loadAt 3 t_4) w fun t_5 w =>
      pvv prog (oEq .eql 3 (.tmp 15) (.tmp 16) t_5 n_p1) w fun t_6 w =>
      cd t_6 (
        K (.bool true) w) <|
      pvv prog (binOp .add 3 i_0 (.int .i64 1)) w fun t_7 w =>
      again_1 [t_7] w) <|
    K (.bool false) w) [(.int .i64 0)] w
theorem B74_eq (l_p0 n_p1 : Value) (w : World) (K : Value → World → Prop) : denFn prog Tryz.f74 T74 [l_p0, n_p1] w K = B74 l_p0 n_p1 w K := by kernel_rfl
theorem c74 {l_p0 n_p1 : Value} {w : World} {K : Value → World → Prop} (h : B74 l_p0 n_p1 w K) : Calls prog 74 #[l_p0, n_p1] w (Ret K) :=
  denFn_calls Tryz.func74 T74_ok (Eq.mpr (B74_eq l_p0 n_p1 w K) h)

-- 143 math/bits.TrailingZeros64
def T143 : Ann := (.seq .none (.seq (.seq .none (.seq (.seq .none .none) .none)) (.seq .none .none)))
theorem T143_ok : chkFn prog Tryz.f143 T143 = true := by kernel_rfl
def B143 (x_p0 : Value) (w : World) (K : Value → World → Prop) : Prop :=
  pvv prog (oEq .eql 123 (.tmp 3) (.const (.int .u64 0)) x_p0 (.int .u64 0)) w fun t_0 w =>
  cd t_0 (
    K (.int .i64 64) w) <|
  pvv prog (Op.unary .neg x_p0) w fun t_1 w =>
  pvv prog (binOp .and 123 x_p0 t_1) w fun t_2 w =>
  pvv prog (binOp .mul 123 t_2 (.int .u64 285870213051353865)) w fun t_3 w =>
  pvv prog (binOp .shr 123 t_3 (.int .u64 58)) w fun t_4 w =>
  pvv prog (Instr.indexAt 173 (.pointer (some ⟨5, 0, none⟩)) t_4) w fun t_5 w =>
  ldv prog (Instr.loadAt 5 t_5) w fun t_6 w =>
  pvv prog (convert 5 3 t_6) w fun t_7 w =>
  K t_7 w
theorem B143_eq (x_p0 : Value) (w : World) (K : Value → World → Prop) : denFn prog Tryz.f143 T143 [x_p0] w K = B143 x_p0 w K := by kernel_rfl
theorem c143 {x_p0 : Value} {w : World} {K : Value → World → Prop} (h : B143 x_p0 w K) : Calls prog 143 #[x_p0] w (Ret K) :=
  denFn_calls Tryz.func143 T143_ok (Eq.mpr (B143_eq x_p0 w K) h)

-- 15 (*holdfast/token.Store).Families
def T15 : Ann := (.seq .none (.seq (.seq .none (.seq (.seq .none .none) .none)) (.seq .none .none)))
theorem T15_ok : chkFn prog Tryz.f15 T15 = true := by kernel_rfl
def B15 (s_p0 session_p1 : Value) (w : World) (K : Value → World → Prop) : Prop :=
  efv prog (Instr.box 3 session_p1) w fun session_0 w =>
  pvv prog (oEq .eql 24 (.tmp 5) (.const (.pointer none)) s_p0 (.pointer none)) w fun t_1 w =>
  cd t_1 (
    K (.slice none 0 0) w) <|
  pv prog (oNil s_p0) w fun t_2 w =>
  pvv prog (Instr.fieldAt 67 t_2 0) w fun t_3 w =>
  ldv prog (Instr.loadAt 62 t_3) w fun t_4 w =>
  pvv prog (Instr.makeFunc (.func 42) #[] #[session_0]) w fun t_5 w =>
  Calls prog 41 #[t_4, t_5] w (Ret fun t_6 w =>
  K t_6 w)
theorem B15_eq (s_p0 session_p1 : Value) (w : World) (K : Value → World → Prop) : denFn prog Tryz.f15 T15 [s_p0, session_p1] w K = B15 s_p0 session_p1 w K := by kernel_rfl
theorem c15 {s_p0 session_p1 : Value} {w : World} {K : Value → World → Prop} (h : B15 s_p0 session_p1 w K) : Calls prog 15 #[s_p0, session_p1] w (Ret K) :=
  denFn_calls Tryz.func15 T15_ok (Eq.mpr (B15_eq s_p0 session_p1 w K) h)

-- 122 internal/strconv.numDigits
def T122 : Ann := (.seq .none (.seq .none (.seq .none .none)))
theorem T122_ok : chkFn prog Tryz.f122 T122 = true := by kernel_rfl
def B122 (d_p0 : Value) (w : World) (K : Value → World → Prop) : Prop :=
  Calls prog 90 #[d_p0] w (Ret fun t_0 w =>
  Calls prog 133 #[t_0] w (Ret fun t_1 w =>
  pvv prog (Instr.indexAt 163 (.pointer (some ⟨0, 0, none⟩)) t_1) w fun t_2 w =>
  ldv prog (Instr.loadAt 123 t_2) w fun t_3 w =>
  pvv prog (binOp .geq 123 d_p0 t_3) w fun t_4 w =>
  Calls prog 134 #[t_4] w (Ret fun t_5 w =>
  pvv prog (binOp .add 3 t_1 t_5) w fun t_6 w =>
  K t_6 w)))
theorem B122_eq (d_p0 : Value) (w : World) (K : Value → World → Prop) : denFn prog Tryz.f122 T122 [d_p0] w K = B122 d_p0 w K := by kernel_rfl
theorem c122 {d_p0 : Value} {w : World} {K : Value → World → Prop} (h : B122 d_p0 w K) : Calls prog 122 #[d_p0] w (Ret K) :=
  denFn_calls Tryz.func122 T122_ok (Eq.mpr (B122_eq d_p0 w K) h)

-- 73 (*holdfast/token.Store).drop$1
def T73 : Ann := (.seq .none (.seq .none .none))
theorem T73_ok : chkFn prog Tryz.f73 T73 = true := by kernel_rfl
def B73 (x_p0 t_p1 x_p2 : Value) (w : World) (K : Value → World → Prop) : Prop :=
  efv prog (Instr.box 49 t_p1) w fun t_0 w =>
  pvv prog (Instr.fieldAt 49 t_0 1) w fun t_1 w =>
  ldv prog (Instr.loadAt 3 t_1) w fun t_2 w =>
  ldv prog (Instr.loadAt 3 x_p2) w fun t_3 w =>
  pvv prog (oEq .eql 3 (.tmp 7) (.tmp 8) t_2 t_3) w fun t_4 w =>
  K t_4 w
theorem B73_eq (x_p0 t_p1 x_p2 : Value) (w : World) (K : Value → World → Prop) : denFn prog Tryz.f73 T73 [x_p0, t_p1, x_p2] w K = B73 x_p0 t_p1 x_p2 w K := by kernel_rfl
theorem c73 {x_p0 t_p1 x_p2 : Value} {w : World} {K : Value → World → Prop} (h : B73 x_p0 t_p1 x_p2 w K) : Calls prog 73 #[x_p0, t_p1, x_p2] w (Ret K) :=
  denFn_calls Tryz.func73 T73_ok (Eq.mpr (B73_eq x_p0 t_p1 x_p2 w K) h)

-- 38 (*holdfast/token.Store).EndSessions$1
def T38 : Ann := (.seq .none (.seq .none .none))
theorem T38_ok : chkFn prog Tryz.f38 T38 = true := by kernel_rfl
def B38 (f_p0 x_p1 : Value) (w : World) (K : Value → World → Prop) : Prop :=
  efv prog (Instr.box 35 f_p0) w fun f_0 w =>
  ldv prog (Instr.loadAt 23 x_p1) w fun t_1 w =>
  pvv prog (Instr.fieldAt 35 f_0 1) w fun t_2 w =>
  ldv prog (Instr.loadAt 3 t_2) w fun t_3 w =>
  Calls prog 36 #[t_1, t_3] w (Ret fun t_4 w =>
  K t_4 w)
theorem B38_eq (f_p0 x_p1 : Value) (w : World) (K : Value → World → Prop) : denFn prog Tryz.f38 T38 [f_p0, x_p1] w K = B38 f_p0 x_p1 w K := by kernel_rfl
theorem c38 {f_p0 x_p1 : Value} {w : World} {K : Value → World → Prop} (h : B38 f_p0 x_p1 w K) : Calls prog 38 #[f_p0, x_p1] w (Ret K) :=
  denFn_calls Tryz.func38 T38_ok (Eq.mpr (B38_eq f_p0 x_p1 w K) h)

-- 49 (holdfast/token.row[holdfast/api.Family]).full
def T49 : Ann := (.seq .none (.seq .none .none))
theorem T49_ok : chkFn prog Tryz.f49 T49 = true := by kernel_rfl
def B49 (r_p0 : Value) (w : World) (K : Value → World → Prop) : Prop :=
  efv prog (Instr.box 62 r_p0) w fun r_0 w =>
  pvv prog (Instr.fieldAt 62 r_0 0) w fun t_1 w =>
  ldv prog (Instr.loadAt 3 t_1) w fun t_2 w =>
  pvv prog (binOp .gtr 3 t_2 (.int .i64 1099511627776)) w fun t_3 w =>
  K t_3 w
theorem B49_eq (r_p0 : Value) (w : World) (K : Value → World → Prop) : denFn prog Tryz.f49 T49 [r_p0] w K = B49 r_p0 w K := by kernel_rfl
theorem c49 {r_p0 : Value} {w : World} {K : Value → World → Prop} (h : B49 r_p0 w K) : Calls prog 49 #[r_p0] w (Ret K) :=
  denFn_calls Tryz.func49 T49_ok (Eq.mpr (B49_eq r_p0 w K) h)

-- 76 slices.Sort[[]int,int]
def T76 : Ann := (.seq .none .none)
theorem T76_ok : chkFn prog Tryz.f76 T76 = true := by kernel_rfl
def B76 (x_p0 : Value) (w : World) (K : Value → World → Prop) : Prop :=
  pv prog (oBi .len #[23] 3 #[false] #[x_p0]) w fun t_0 w =>
  pvv prog (convert 3 106 t_0) w fun t_1 w =>
  Calls prog 70 #[t_1] w (Ret fun t_2 w =>
  Calls prog 99 #[x_p0, (.int .i64 0), t_0, t_2] w (Ret fun t_3 w =>
  K (.tuple #[]) w))
theorem B76_eq (x_p0 : Value) (w : World) (K : Value → World → Prop) : denFn prog Tryz.f76 T76 [x_p0] w K = B76 x_p0 w K := by kernel_rfl
theorem c76 {x_p0 : Value} {w : World} {K : Value → World → Prop} (h : B76 x_p0 w K) : Calls prog 76 #[x_p0] w (Ret K) :=
  denFn_calls Tryz.func76 T76_ok (Eq.mpr (B76_eq x_p0 w K) h)

-- 128 unicode/utf8.RuneStart
def T128 : Ann := (.seq .none (.seq .none .none))
theorem T128_ok : chkFn prog Tryz.f128 T128 = true := by kernel_rfl
def B128 (b_p0 : Value) (w : World) (K : Value → World → Prop) : Prop :=
  pvv prog (binOp .and 5 b_p0 (.int .u8 192)) w fun t_0 w =>
  pvv prog (oEq .neq 5 (.tmp 4) (.const (.int .u8 128)) t_0 (.int .u8 128)) w fun t_1 w =>
  K t_1 w
theorem B128_eq (b_p0 : Value) (w : World) (K : Value → World → Prop) : denFn prog Tryz.f128 T128 [b_p0] w K = B128 b_p0 w K := by kernel_rfl
theorem c128 {b_p0 : Value} {w : World} {K : Value → World → Prop} (h : B128 b_p0 w K) : Calls prog 128 #[b_p0] w (Ret K) :=
  denFn_calls Tryz.func128 T128_ok (Eq.mpr (B128_eq b_p0 w K) h)

-- 67 maps.Keys[map[int]holdfast/api.Family,int,holdfast/api.Family]
def T67 : Ann := (.seq .none (.seq .none .none))
theorem T67_ok : chkFn prog Tryz.f67 T67 = true := by kernel_rfl
def B67 (m_p0 : Value) (w : World) (K : Value → World → Prop) : Prop :=
  efv prog (Instr.box 60 m_p0) w fun m_0 w =>
  pvv prog (Instr.makeFunc (.func 78) #[] #[m_0]) w fun t_1 w =>
  K t_1 w
theorem B67_eq (m_p0 : Value) (w : World) (K : Value → World → Prop) : denFn prog Tryz.f67 T67 [m_p0] w K = B67 m_p0 w K := by kernel_rfl
theorem c67 {m_p0 : Value} {w : World} {K : Value → World → Prop} (h : B67 m_p0 w K) : Calls prog 67 #[m_p0] w (Ret K) :=
  denFn_calls Tryz.func67 T67_ok (Eq.mpr (B67_eq m_p0 w K) h)

-- 79 strings.TrimPrefix
def T79 : Ann := (.seq .none (.seq .none .none))
theorem T79_ok : chkFn prog Tryz.f79 T79 = true := by kernel_rfl
def B79 (s_p0 prefix_p1 : Value) (w : World) (K : Value → World → Prop) : Prop :=
  Calls prog 100 #[s_p0, prefix_p1] w (Ret fun t_0 w =>
  K t_0 w)
theorem B79_eq (s_p0 prefix_p1 : Value) (w : World) (K : Value → World → Prop) : denFn prog Tryz.f79 T79 [s_p0, prefix_p1] w K = B79 s_p0 prefix_p1 w K := by kernel_rfl
theorem c79 {s_p0 prefix_p1 : Value} {w : World} {K : Value → World → Prop} (h : B79 s_p0 prefix_p1 w K) : Calls prog 79 #[s_p0, prefix_p1] w (Ret K) :=
  denFn_calls Tryz.func79 T79_ok (Eq.mpr (B79_eq s_p0 prefix_p1 w K) h)

-- 75 slices.Collect[int]
def T75 : Ann := (.seq .none (.seq .none .none))
theorem T75_ok : chkFn prog Tryz.f75 T75 = true := by kernel_rfl
def B75 (seq_p0 : Value) (w : World) (K : Value → World → Prop) : Prop :=
  Calls prog 98 #[(.slice none 0 0), seq_p0] w (Ret fun t_0 w =>
  K t_0 w)
theorem B75_eq (seq_p0 : Value) (w : World) (K : Value → World → Prop) : denFn prog Tryz.f75 T75 [seq_p0] w K = B75 seq_p0 w K := by kernel_rfl
theorem c75 {seq_p0 : Value} {w : World} {K : Value → World → Prop} (h : B75 seq_p0 w K) : Calls prog 75 #[seq_p0] w (Ret K) :=
  denFn_calls Tryz.func75 T75_ok (Eq.mpr (B75_eq seq_p0 w K) h)


end Go.Proofs.YtbcimkjgpplcpaaGreatDoor
