import Derived.Test.YtjeiojibnmfibaaDoorPI
set_option linter.all false
set_option maxRecDepth 100000
namespace Go.Proofs.YtjeiojibnmfibaaDoor
open Go Hold
-- 25 holdfast/audit.Load
def T25 : Ann := (.seq .none (.seq .none (.seq (.seq (.draw [(0, .pure), (1, .pure), (2, .pure), (3, .pure), (4, .pure), (5, .pure), (6, .pure), (7, .pure), (8, .pure), (9, .pure), (10, .pure), (11, .pure), (12, .load), (13, .pure), (14, .pure), (15, .pure), (16, .pure), (17, .pure), (18, .pure), (20, .pure), (21, .pure), (22, .pure), (23, .pure), (24, .pure), (25, .pure), (26, .pure), (27, .pure), (28, .pure), (29, .pure), (30, .pure), (19, .load), (31, .eff), (32, .eff), (33, .pure), (34, .pure)]) (.seq (.seq .none .none) .none)) (.seq (.draw [(0, .pure), (1, .pure), (2, .pure), (3, .pure), (5, .pure), (6, .pure), (7, .pure), (8, .pure), (10, .pure), (11, .pure), (12, .pure), (4, .load), (9, .load), (13, .load), (14, .pure), (15, .pure), (16, .pure), (17, .pure), (18, .pure), (19, .pure), (20, .pure), (22, .pure), (23, .pure), (24, .pure), (25, .pure), (27, .pure), (28, .pure), (21, .load), (26, .load), (29, .pure), (30, .pure), (31, .pure), (32, .pure), (33, .pure)]) (.seq (.seq (.draw [(0, .pure), (1, .pure), (2, .pure), (3, .pure), (4, .pure), (6, .pure), (7, .pure), (8, .pure), (9, .pure), (5, .load), (10, .eff), (11, .pure), (12, .pure), (13, .pure), (14, .pure), (15, .pure), (17, .pure), (18, .pure), (19, .pure), (20, .pure), (16, .load), (21, .eff), (22, .pure), (23, .pure), (24, .pure), (25, .pure), (26, .pure), (28, .pure), (29, .pure), (30, .pure), (27, .load), (31, .eff), (32, .pure), (33, .pure)]) (.seq (.seq .none .none) .none)) (.seq .none (.seq (.seq .none (.block (.loop 1606938044258990275541962009264412865964960937294851567780812 [6, 116] (.seq .none (.seq (.seq .none .none) (.seq (.block (.seq .none (.seq .none (.seq (.seq (.draw [(0, .pure), (2, .pure), (1, .load), (3, .load), (4, .eff), (5, .pure), (6, .pure), (7, .pure), (8, .pure), (9, .load), (10, .pure), (11, .pure), (12, .pure), (13, .pure), (14, .pure), (17, .pure), (15, .load), (16, .pure), (18, .eff), (19, .eff), (20, .pure), (21, .pure)]) (.seq (.seq .none .none) .none)) (.seq (.draw [(0, .pure), (4, .pure), (1, .load), (2, .pure), (3, .load), (5, .load), (6, .pure), (7, .load), (8, .pure), (9, .eff), (10, .pure), (11, .eff)]) (.seq (.seq (.draw [(0, .pure), (1, .load), (2, .pure), (3, .pure), (4, .pure), (5, .pure), (6, .load), (7, .pure), (8, .pure), (9, .pure), (10, .pure), (11, .pure), (13, .pure), (12, .load), (14, .pure), (15, .pure), (16, .pure), (17, .pure), (19, .pure), (20, .pure), (21, .pure), (18, .load), (22, .load), (23, .pure), (24, .pure)]) (.seq (.seq .none .none) .none)) (.seq .none (.draw [(0, .pure), (1, .pure), (2, .pure), (3, .pure), (4, .load), (5, .load), (6, .eff), (7, .eff), (8, .pure), (9, .pure), (10, .eff)])))))))) .none)))))) (.seq .none .none))))))))
theorem T25_ok : chkFn prog Tryd.f25 T25 = true := by kernel_rfl
def B25 (rows_p0 : Value) (w : World) (K : Value → World → Prop) : Prop :=
  Calls prog 9 #[] w (Ret fun t_0 w =>
  dr w fun w =>
  pv prog (oBi .len #[51] 3 #[false] #[rows_p0]) w fun t_1 w =>
  pvv prog (binOp .lss 3 t_1 (.int .i64 4)) w fun t_2 w =>
  gate (some (t_2, false)) (fun K => K rows_p0 w) w fun t_3 w =>
  gate (some (t_2, false)) (fun K => pv prog (oBi .len #[51] 3 #[false] #[t_3]) w K) w fun t_4 w =>
  gate (some (t_2, false)) (fun K => pvv prog (binOp .gtr 3 t_4 (.int .i64 68)) w K) w fun t_5 w =>
  pv prog (oPick t_2 (.bool true) t_5) w fun t_6 w =>
  gate (some (t_6, false)) (fun K => K rows_p0 w) w fun t_7 w =>
  gate (some (t_6, false)) (fun K => pvv prog (Instr.indexAt 51 t_7 (.int .i64 0)) w K) w fun t_8 w =>
  gate (some (t_6, false)) (fun K => pvv prog (Instr.fieldAt 71 t_8 0) w K) w fun t_9 w =>
  bindS (vN (Instr.loadAt 9 t_9)) fun m_11 => gate (some (t_6, false)) (fun K => ldv prog (Instr.loadAt 9 t_9) w K) w fun t_10 w =>
  gate (some (t_6, false)) (fun K => pvv prog (oEq .neq 9 (.tmp 23) (.const (.string ⟨#[35]⟩)) t_10 (.string ⟨#[35]⟩)) w K) w fun t_12 w =>
  pv prog (oPick t_6 (.bool true) t_12) w fun t_13 w =>
  gate (some (t_13, false)) (fun K => K rows_p0 w) w fun t_14 w =>
  gate (some (t_13, false)) (fun K => pvv prog (Instr.indexAt 51 t_14 (.int .i64 0)) w K) w fun t_15 w =>
  gate (some (t_13, false)) (fun K => pvv prog (Instr.fieldAt 71 t_15 1) w K) w fun t_16 w =>
  gate (some (t_13, false)) (fun K => K t_0 w) w fun t_17 w =>
  gate (some (t_13, false)) (fun K => pv prog (oNil t_17) w K) w fun t_18 w =>
  gate (some (t_13, false)) (fun K => pvv prog (Instr.fieldAt 59 t_18 0) w K) w fun t_19 w =>
  gate (some (t_13, false)) (fun K => pvv prog (Instr.fieldAt 57 t_19 0) w K) w fun t_20 w =>
  gate (some (t_13, false)) (fun K => K t_0 w) w fun t_21 w =>
  gate (some (t_13, false)) (fun K => pv prog (oNil t_21) w K) w fun t_22 w =>
  gate (some (t_13, false)) (fun K => pvv prog (Instr.fieldAt 59 t_22 1) w K) w fun t_23 w =>
  gate (some (t_13, false)) (fun K => pvv prog (Instr.fieldAt 57 t_23 0) w K) w fun t_24 w =>
  gate (some (t_13, false)) (fun K => K t_0 w) w fun t_25 w =>
  gate (some (t_13, false)) (fun K => pv prog (oNil t_25) w K) w fun t_26 w =>
  gate (some (t_13, false)) (fun K => pvv prog (Instr.fieldAt 59 t_26 3) w K) w fun t_27 w =>
  bindS (vN (Instr.loadAt 69 t_16)) fun m_29 => gate (some (t_13, false)) (fun K => ldv prog (Instr.loadAt 69 t_16) w K) w fun t_28 w =>
  gate (some (t_13, false)) (fun K => efv prog (Instr.buildSlice 88 3 #[(0, t_20), (1, t_24), (2, t_27)]) w fun s_213 w => stay prog (some (t_13, false)) m_29 t_28 w <| stay prog (some (t_6, false)) m_11 t_10 w <| K s_213 w) w fun t_30 w =>
  gate (some (t_13, false)) (fun K => Calls prog 40 #[t_28, t_30] w (Ret fun s_212 w => stay prog (some (t_6, false)) m_11 t_10 w <| K s_212 w)) w fun t_31 w =>
  gate (some (t_13, false)) (fun K => pvv prog (Op.unary .not t_31) w K) w fun t_32 w =>
  pv prog (oPick t_13 (.bool true) t_32) w fun t_33 w =>
  cd t_33 (
    K (.tuple #[(.pointer none), (.int .i64 3)]) w) <|
  dr w fun w =>
  pv prog (oNil t_0) w fun t_34 w =>
  pvv prog (Instr.fieldAt 59 t_34 0) w fun t_35 w =>
  pvv prog (Instr.fieldAt 57 t_35 0) w fun t_36 w =>
  pv prog (oNil t_0) w fun t_37 w =>
  pvv prog (Instr.fieldAt 59 t_37 1) w fun t_38 w =>
  pvv prog (Instr.fieldAt 57 t_38 0) w fun t_39 w =>
  pv prog (oNil t_0) w fun t_40 w =>
  pvv prog (Instr.fieldAt 59 t_40 3) w fun t_41 w =>
  bindS (vN (Instr.loadAt 3 t_36)) fun m_43 => ldv prog (Instr.loadAt 3 t_36) w fun t_42 w =>
  bindS (vN (Instr.loadAt 3 t_39)) fun m_45 => ldv prog (Instr.loadAt 3 t_39) w fun t_44 w =>
  bindS (vN (Instr.loadAt 3 t_41)) fun m_47 => ldv prog (Instr.loadAt 3 t_41) w fun t_46 w =>
  pv prog (oBi .max #[3, 3, 3] 3 #[false, false, false] #[t_42, t_44, t_46]) w fun t_48 w =>
  pvv prog (binOp .leq 3 t_48 (.int .i64 1099511627776)) w fun t_49 w =>
  gate (some (t_49, true)) (fun K => K t_0 w) w fun t_50 w =>
  gate (some (t_49, true)) (fun K => pv prog (oNil t_50) w K) w fun t_51 w =>
  gate (some (t_49, true)) (fun K => pvv prog (Instr.fieldAt 59 t_51 1) w K) w fun t_52 w =>
  gate (some (t_49, true)) (fun K => pvv prog (Instr.fieldAt 57 t_52 0) w K) w fun t_53 w =>
  gate (some (t_49, true)) (fun K => K t_0 w) w fun t_54 w =>
  gate (some (t_49, true)) (fun K => pv prog (oNil t_54) w K) w fun t_55 w =>
  gate (some (t_49, true)) (fun K => pvv prog (Instr.fieldAt 59 t_55 0) w K) w fun t_56 w =>
  gate (some (t_49, true)) (fun K => pvv prog (Instr.fieldAt 57 t_56 0) w K) w fun t_57 w =>
  gate (some (t_49, true)) (fun K => K rows_p0 w) w fun t_58 w =>
  gate (some (t_49, true)) (fun K => pv prog (oBi .len #[51] 3 #[false] #[t_58]) w K) w fun t_59 w =>
  bindS (vN (Instr.loadAt 3 t_53)) fun m_61 => gate (some (t_49, true)) (fun K => ldv prog (Instr.loadAt 3 t_53) w K) w fun t_60 w =>
  bindS (vN (Instr.loadAt 3 t_57)) fun m_63 => gate (some (t_49, true)) (fun K => ldv prog (Instr.loadAt 3 t_57) w K) w fun t_62 w =>
  gate (some (t_49, true)) (fun K => pvv prog (binOp .add 3 t_62 t_59) w K) w fun t_64 w =>
  gate (some (t_49, true)) (fun K => pvv prog (binOp .sub 3 t_64 (.int .i64 4)) w K) w fun t_65 w =>
  gate (some (t_49, true)) (fun K => pvv prog (binOp .leq 3 t_60 t_65) w K) w fun t_66 w =>
  pv prog (oPick t_49 t_66 (.bool false)) w fun t_67 w =>
  dr w fun w =>
  pvv prog (Op.unary .not t_67) w fun t_68 w =>
  gate (some (t_68, false)) (fun K => K rows_p0 w) w fun t_69 w =>
  gate (some (t_68, false)) (fun K => pvv prog (Instr.indexAt 51 t_69 (.int .i64 1)) w K) w fun t_70 w =>
  gate (some (t_68, false)) (fun K => K t_0 w) w fun t_71 w =>
  gate (some (t_68, false)) (fun K => pv prog (oNil t_71) w K) w fun t_72 w =>
  gate (some (t_68, false)) (fun K => pvv prog (Instr.fieldAt 59 t_72 1) w K) w fun t_73 w =>
  gate (some (t_68, false)) (fun K => pvv prog (Instr.fieldAt 57 t_73 1) w K) w fun t_74 w =>
  bindS (vN (Instr.loadAt 71 t_70)) fun m_76 => gate (some (t_68, false)) (fun K => ldv prog (Instr.loadAt 71 t_70) w K) w fun t_75 w =>
  gate (some (t_68, false)) (fun K => Calls prog 41 #[t_75, (.string ⟨#[97]⟩), t_74] w (Ret fun s_211 w => K s_211 w)) w fun t_77 w =>
  gate (some (t_68, false)) (fun K => pvv prog (Op.unary .not t_77) w K) w fun t_78 w =>
  pv prog (oPick t_68 (.bool true) t_78) w fun t_79 w =>
  gate (some (t_79, false)) (fun K => K rows_p0 w) w fun t_80 w =>
  gate (some (t_79, false)) (fun K => pvv prog (Instr.indexAt 51 t_80 (.int .i64 2)) w K) w fun t_81 w =>
  gate (some (t_79, false)) (fun K => K t_0 w) w fun t_82 w =>
  gate (some (t_79, false)) (fun K => pv prog (oNil t_82) w K) w fun t_83 w =>
  gate (some (t_79, false)) (fun K => pvv prog (Instr.fieldAt 59 t_83 0) w K) w fun t_84 w =>
  gate (some (t_79, false)) (fun K => pvv prog (Instr.fieldAt 57 t_84 1) w K) w fun t_85 w =>
  bindS (vN (Instr.loadAt 71 t_81)) fun m_87 => gate (some (t_79, false)) (fun K => ldv prog (Instr.loadAt 71 t_81) w K) w fun t_86 w =>
  gate (some (t_79, false)) (fun K => Calls prog 41 #[t_86, (.string ⟨#[98]⟩), t_85] w (Ret fun s_210 w => stay prog (some (t_68, false)) m_76 t_75 w <| K s_210 w)) w fun t_88 w =>
  gate (some (t_79, false)) (fun K => pvv prog (Op.unary .not t_88) w K) w fun t_89 w =>
  pv prog (oPick t_79 (.bool true) t_89) w fun t_90 w =>
  gate (some (t_90, false)) (fun K => K rows_p0 w) w fun t_91 w =>
  gate (some (t_90, false)) (fun K => pvv prog (Instr.indexAt 51 t_91 (.int .i64 3)) w K) w fun t_92 w =>
  gate (some (t_90, false)) (fun K => K t_0 w) w fun t_93 w =>
  gate (some (t_90, false)) (fun K => pv prog (oNil t_93) w K) w fun t_94 w =>
  gate (some (t_90, false)) (fun K => pvv prog (Instr.fieldAt 59 t_94 2) w K) w fun t_95 w =>
  bindS (vN (Instr.loadAt 71 t_92)) fun m_97 => gate (some (t_90, false)) (fun K => ldv prog (Instr.loadAt 71 t_92) w K) w fun t_96 w =>
  gate (some (t_90, false)) (fun K => Calls prog 41 #[t_96, (.string ⟨#[104]⟩), t_95] w (Ret fun s_209 w => stay prog (some (t_79, false)) m_87 t_86 w <| stay prog (some (t_68, false)) m_76 t_75 w <| K s_209 w)) w fun t_98 w =>
  gate (some (t_90, false)) (fun K => pvv prog (Op.unary .not t_98) w K) w fun t_99 w =>
  pv prog (oPick t_90 (.bool true) t_99) w fun t_100 w =>
  cd t_100 (
    K (.tuple #[(.pointer none), (.int .i64 3)]) w) <|
  pvv prog (Instr.sliceAt 51 rows_p0 (some (.int .i64 4)) none none) w fun t_101 w =>
  pv prog (oBi .len #[51] 3 #[false] #[t_101]) w fun t_102 w =>
  lp (fun σ w again_105 => pop σ fun before_103 σ => pop σ fun t_104 σ => fin σ <|
    pvv prog (binOp .lss 3 t_104 t_102) w fun t_106 w =>
    cd t_106 (
      pvv prog (Instr.indexAt 51 t_101 t_104) w fun t_107 w =>
      ldv prog (Instr.loadAt 71 t_107) w fun t_108 w =>
      efv prog (Instr.alloc 71 true (.tuple #[])) w fun r_109 w =>
      efu prog (Instr.storeAt 71 r_109 t_108) w fun u_110 w =>
      pv prog (oNil t_0) w fun t_111 w =>
      pvv prog (Instr.fieldAt 59 t_111 0) w fun t_112 w =>
      pvv prog (Instr.fieldAt 57 t_112 0) w fun t_113 w =>
      ldv prog (Instr.loadAt 3 t_113) w fun t_114 w =>
      pvv prog (binOp .add 3 t_114 t_104) w fun t_115 w =>
      pvv prog (binOp .add 3 t_115 (.int .i64 1)) w fun t_116 w =>
      pvv prog (Instr.build 34 #[(0, t_116)]) w fun t_117 w =>
      efv prog (Instr.alloc 34 true (.tuple #[])) w fun x_118 w =>
      efu prog (Instr.storeAt 34 x_118 t_117) w fun u_119 w =>
      dr w fun w =>
      pvv prog (Instr.fieldAt 71 r_109 0) w fun t_120 w =>
      pvv prog (Instr.fieldAt 34 x_118 0) w fun t_121 w =>
      bindS (vN (Instr.loadAt 9 t_120)) fun m_123 => ldv prog (Instr.loadAt 9 t_120) w fun t_122 w =>
      bindS (vN (Instr.loadAt 3 t_121)) fun m_125 => ldv prog (Instr.loadAt 3 t_121) w fun t_124 w =>
      Calls prog 39 #[t_124] w (Ret fun t_126 w => stay prog none m_123 t_122 w <| 
      pvv prog (binOp .add 9 (.string ⟨#[110]⟩) t_126) w fun t_127 w =>
      pvv prog (oEq .neq 9 (.tmp 131) (.tmp 135) t_122 t_127) w fun t_128 w =>
      gate (some (t_128, false)) (fun K => pvv prog (Instr.fieldAt 71 r_109 1) w K) w fun t_129 w =>
      bindS (vN (Instr.loadAt 69 t_129)) fun m_131 => gate (some (t_128, false)) (fun K => ldv prog (Instr.loadAt 69 t_129) w K) w fun t_130 w =>
      gate (some (t_128, false)) (fun K => pv prog (oBi .len #[69] 3 #[false] #[t_130]) w K) w fun t_132 w =>
      gate (some (t_128, false)) (fun K => pvv prog (oEq .neq 3 (.tmp 140) (.const (.int .i64 3)) t_132 (.int .i64 3)) w K) w fun t_133 w =>
      pv prog (oPick t_128 (.bool true) t_133) w fun t_134 w =>
      gate (some (t_134, false)) (fun K => pvv prog (Instr.fieldAt 71 r_109 1) w K) w fun t_135 w =>
      gate (some (t_134, false)) (fun K => pvv prog (Instr.fieldAt 34 x_118 1) w K) w fun t_136 w =>
      bindS (vN (Instr.loadAt 69 t_135)) fun m_138 => gate (some (t_134, false)) (fun K => ldv prog (Instr.loadAt 69 t_135) w K) w fun t_137 w =>
      gate (some (t_134, false)) (fun K => pvv prog (Instr.sliceAt 69 t_137 none (some (.int .i64 1)) none) w K) w fun t_139 w =>
      gate (some (t_134, false)) (fun K => efv prog (Instr.buildSlice 88 1 #[(0, t_136)]) w fun s_207 w => stay prog (some (t_134, false)) m_138 t_137 w <| stay prog (some (t_128, false)) m_131 t_130 w <| stay prog none m_125 t_124 w <| stay prog none m_123 t_122 w <| K s_207 w) w fun t_140 w =>
      gate (some (t_134, false)) (fun K => Calls prog 40 #[t_139, t_140] w (Ret fun s_206 w => stay prog (some (t_134, false)) m_138 t_137 w <| stay prog (some (t_128, false)) m_131 t_130 w <| stay prog none m_125 t_124 w <| stay prog none m_123 t_122 w <| K s_206 w)) w fun t_141 w =>
      gate (some (t_134, false)) (fun K => pvv prog (Op.unary .not t_141) w K) w fun t_142 w =>
      pv prog (oPick t_134 (.bool true) t_142) w fun t_143 w =>
      cd t_143 (
        K (.tuple #[(.pointer none), (.int .i64 3)]) w) <|
      dr w fun w =>
      pvv prog (Instr.fieldAt 71 r_109 1) w fun t_144 w =>
      pvv prog (Instr.fieldAt 71 r_109 1) w fun t_145 w =>
      bindS (vN (Instr.loadAt 69 t_144)) fun m_147 => ldv prog (Instr.loadAt 69 t_144) w fun t_146 w =>
      pvv prog (Instr.indexAt 69 t_146 (.int .i64 1)) w fun t_148 w =>
      bindS (vN (Instr.loadAt 9 t_148)) fun m_150 => ldv prog (Instr.loadAt 9 t_148) w fun t_149 w =>
      bindS (vN (Instr.loadAt 69 t_145)) fun m_152 => ldv prog (Instr.loadAt 69 t_145) w fun t_151 w =>
      pvv prog (Instr.indexAt 69 t_151 (.int .i64 2)) w fun t_153 w =>
      bindS (vN (Instr.loadAt 9 t_153)) fun m_155 => ldv prog (Instr.loadAt 9 t_153) w fun t_154 w =>
      pvv prog (Instr.fieldAt 34 x_118 2) w fun t_156 w =>
      efu prog (Instr.storeAt 9 t_156 t_149) w fun u_157 w => stay prog none m_152 t_151 w <| 
      pvv prog (Instr.fieldAt 34 x_118 3) w fun t_158 w =>
      efu prog (Instr.storeAt 9 t_158 t_154) w fun u_159 w =>
      dr w fun w =>
      pvv prog (Instr.fieldAt 34 x_118 2) w fun t_160 w =>
      bindS (vN (Instr.loadAt 9 t_160)) fun m_162 => ldv prog (Instr.loadAt 9 t_160) w fun t_161 w =>
      pv prog (oBi .len #[9] 3 #[false] #[t_161]) w fun t_163 w =>
      pvv prog (binOp .gtr 3 t_163 (.int .i64 12)) w fun t_164 w =>
      gate (some (t_164, false)) (fun K => pvv prog (Instr.fieldAt 34 x_118 3) w K) w fun t_165 w =>
      bindS (vN (Instr.loadAt 9 t_165)) fun m_167 => gate (some (t_164, false)) (fun K => ldv prog (Instr.loadAt 9 t_165) w K) w fun t_166 w =>
      gate (some (t_164, false)) (fun K => pv prog (oBi .len #[9] 3 #[false] #[t_166]) w K) w fun t_168 w =>
      gate (some (t_164, false)) (fun K => pvv prog (binOp .gtr 3 t_168 (.int .i64 30)) w K) w fun t_169 w =>
      pv prog (oPick t_164 (.bool true) t_169) w fun t_170 w =>
      gate (some (t_170, false)) (fun K => pvv prog (Instr.fieldAt 34 x_118 1) w K) w fun t_171 w =>
      gate (some (t_170, false)) (fun K => K before_103 w) w fun t_172 w =>
      bindS (vN (Instr.loadAt 3 t_171)) fun m_174 => gate (some (t_170, false)) (fun K => ldv prog (Instr.loadAt 3 t_171) w K) w fun t_173 w =>
      gate (some (t_170, false)) (fun K => pvv prog (binOp .lss 3 t_173 t_172) w K) w fun t_175 w =>
      pv prog (oPick t_170 (.bool true) t_175) w fun t_176 w =>
      gate (some (t_176, false)) (fun K => pvv prog (Instr.fieldAt 34 x_118 1) w K) w fun t_177 w =>
      gate (some (t_176, false)) (fun K => K t_0 w) w fun t_178 w =>
      gate (some (t_176, false)) (fun K => pv prog (oNil t_178) w K) w fun t_179 w =>
      gate (some (t_176, false)) (fun K => pvv prog (Instr.fieldAt 59 t_179 3) w K) w fun t_180 w =>
      bindS (vN (Instr.loadAt 3 t_177)) fun m_182 => gate (some (t_176, false)) (fun K => ldv prog (Instr.loadAt 3 t_177) w K) w fun t_181 w =>
      bindS (vN (Instr.loadAt 3 t_180)) fun m_184 => gate (some (t_176, false)) (fun K => ldv prog (Instr.loadAt 3 t_180) w K) w fun t_183 w =>
      gate (some (t_176, false)) (fun K => pvv prog (binOp .gtr 3 t_181 t_183) w K) w fun t_185 w =>
      pv prog (oPick t_176 (.bool true) t_185) w fun t_186 w =>
      cd t_186 (
        K (.tuple #[(.pointer none), (.int .i64 3)]) w) <|
      pvv prog (Instr.fieldAt 34 x_118 1) w fun t_187 w =>
      ldv prog (Instr.loadAt 3 t_187) w fun t_188 w =>
      dr w fun w =>
      pv prog (oNil t_0) w fun t_189 w =>
      pvv prog (Instr.fieldAt 59 t_189 4) w fun t_190 w =>
      bindS (vN (Instr.loadAt 31 t_190)) fun m_192 => ldv prog (Instr.loadAt 31 t_190) w fun t_191 w =>
      bindS (vN (Instr.loadAt 34 x_118)) fun m_194 => ldv prog (Instr.loadAt 34 x_118) w fun t_193 w =>
      efv prog (Instr.buildSlice 31 1 #[(0, t_193)]) w fun t_195 w => stay prog none m_192 t_191 w <| 
      ef prog (oBi .append #[31, 31] 31 #[false, false] #[t_191, t_195]) w fun t_196 w => stay prog none m_194 t_193 w <| 
      pv prog (oNil t_0) w fun t_197 w =>
      pvv prog (Instr.fieldAt 59 t_197 4) w fun t_198 w =>
      efu prog (Instr.storeAt 31 t_198 t_196) w fun u_199 w =>
      pvv prog (binOp .add 3 t_104 (.int .i64 1)) w fun t_200 w =>
      again_105 [t_188, t_200] w)) <|
    K (.tuple #[t_0, (.int .i64 0)]) w) [(.int .i64 0), (.int .i64 0)] w)
theorem B25_eq (rows_p0 : Value) (w : World) (K : Value → World → Prop) : denFn prog Tryd.f25 T25 [rows_p0] w K = B25 rows_p0 w K := by kernel_rfl
theorem c25 {rows_p0 : Value} {w : World} {K : Value → World → Prop} (h : B25 rows_p0 w K) : Calls prog 25 #[rows_p0] w (Ret K) :=
  denFn_calls Tryd.func25 T25_ok (Eq.mpr (B25_eq rows_p0 w K) h)

-- 3 holdfast/holdfastlaw14.AuditOrder
def T3 : Ann := (.seq .none (.seq .none (.seq (.seq .none (.seq (.seq .none .none) .none)) (.seq (.seq .none (.block (.loop 2147467296 [5] (.seq (.seq .none (.seq .none .none)) (.seq (.block .none) .none))))) (.seq .none (.seq (.seq .none (.block (.loop 1180591620708821368964 [7] (.seq (.seq .none (.seq .none .none)) (.seq (.block (.seq (.draw [(0, .pure), (1, .pure), (2, .pure), (3, .pure), (4, .pure), (5, .pure), (6, .pure), (8, .pure), (9, .pure), (10, .pure), (11, .pure), (12, .pure), (7, .load), (13, .load), (14, .pure), (15, .pure), (16, .pure), (17, .pure), (18, .pure), (19, .pure), (20, .pure), (22, .pure), (23, .pure), (24, .pure), (25, .pure), (26, .pure), (21, .load), (27, .load), (28, .pure), (29, .pure), (30, .pure)]) (.seq (.seq .none .none) .none))) .none))))) (.seq .none (.seq (.draw [(0, .pure), (1, .pure), (2, .pure), (3, .pure), (4, .pure), (5, .pure), (6, .pure), (7, .pure), (8, .pure), (9, .pure), (10, .pure), (11, .pure), (12, .pure), (13, .pure), (15, .pure), (14, .load), (16, .eff), (17, .pure), (18, .pure), (19, .pure), (20, .pure), (21, .pure), (22, .pure), (23, .eff), (24, .pure), (25, .pure), (26, .pure)]) .none))))))))
theorem T3_ok : chkFn prog Tryd.f3 T3 = true := by kernel_rfl
def B3 (l_p0 : Value) (w : World) (K : Value → World → Prop) : Prop :=
  Calls prog 9 #[] w (Ret fun t_0 w =>
  Calls prog 10 #[] w (Ret fun t_1 w =>
  Calls prog 11 #[] w (Ret fun t_2 w =>
  pvv prog (Op.unary .not t_2) w fun t_3 w =>
  cd t_3 (
    K (.bool false) w) <|
  lp (fun σ w again_5 => pop σ fun i_4 σ => fin σ <|
    pv prog (oBi .len #[22] 3 #[false] #[l_p0]) w fun t_6 w =>
    pvv prog (binOp .lss 3 i_4 t_6) w fun t_7 w =>
    gate (some (t_7, true)) (fun K => K i_4 w) w fun t_8 w =>
    gate (some (t_7, true)) (fun K => pvv prog (binOp .lss 3 t_8 (.int .i64 100)) w K) w fun t_9 w =>
    pv prog (oPick t_7 t_9 (.bool false)) w fun t_10 w =>
    cd t_10 (
      pvv prog (Instr.indexAt 22 l_p0 i_4) w fun t_11 w =>
      ldv prog (Instr.loadAt 30 t_11) w fun t_12 w =>
      Calls prog 12 #[t_0, t_1, t_12] w (Ret fun t_13 w =>
      pvv prog (binOp .add 3 i_4 (.int .i64 1)) w fun t_14 w =>
      again_5 [t_14] w)) <|
    Calls prog 13 #[t_0] w (Ret fun t_15 w =>
    lp (fun σ w again_17 => pop σ fun i_16 σ => fin σ <|
      pv prog (oBi .len #[31] 3 #[false] #[t_15]) w fun t_18 w =>
      pvv prog (binOp .lss 3 i_16 t_18) w fun t_19 w =>
      cd t_19 (
        dr w fun w =>
        pvv prog (binOp .gtr 3 i_16 (.int .i64 0)) w fun t_20 w =>
        gate (some (t_20, true)) (fun K => K t_15 w) w fun t_21 w =>
        gate (some (t_20, true)) (fun K => K i_16 w) w fun t_22 w =>
        gate (some (t_20, true)) (fun K => pvv prog (Instr.indexAt 31 t_21 t_22) w K) w fun t_23 w =>
        gate (some (t_20, true)) (fun K => pvv prog (Instr.fieldAt 34 t_23 0) w K) w fun t_24 w =>
        gate (some (t_20, true)) (fun K => K t_15 w) w fun t_25 w =>
        gate (some (t_20, true)) (fun K => K i_16 w) w fun t_26 w =>
        gate (some (t_20, true)) (fun K => pvv prog (binOp .sub 3 t_26 (.int .i64 1)) w K) w fun t_27 w =>
        gate (some (t_20, true)) (fun K => pvv prog (Instr.indexAt 31 t_25 t_27) w K) w fun t_28 w =>
        gate (some (t_20, true)) (fun K => pvv prog (Instr.fieldAt 34 t_28 0) w K) w fun t_29 w =>
        bindS (vN (Instr.loadAt 3 t_24)) fun m_31 => gate (some (t_20, true)) (fun K => ldv prog (Instr.loadAt 3 t_24) w K) w fun t_30 w =>
        bindS (vN (Instr.loadAt 3 t_29)) fun m_33 => gate (some (t_20, true)) (fun K => ldv prog (Instr.loadAt 3 t_29) w K) w fun t_32 w =>
        gate (some (t_20, true)) (fun K => pvv prog (binOp .add 3 t_32 (.int .i64 1)) w K) w fun t_34 w =>
        gate (some (t_20, true)) (fun K => pvv prog (oEq .neq 3 (.tmp 46) (.tmp 53) t_30 t_34) w K) w fun t_35 w =>
        gate (some (t_20, true)) (fun K => K t_35 w) w fun t_36 w =>
        gate (some (t_36, false)) (fun K => K t_15 w) w fun t_37 w =>
        gate (some (t_36, false)) (fun K => K i_16 w) w fun t_38 w =>
        gate (some (t_36, false)) (fun K => pvv prog (Instr.indexAt 31 t_37 t_38) w K) w fun t_39 w =>
        gate (some (t_36, false)) (fun K => pvv prog (Instr.fieldAt 34 t_39 1) w K) w fun t_40 w =>
        gate (some (t_36, false)) (fun K => K t_15 w) w fun t_41 w =>
        gate (some (t_36, false)) (fun K => K i_16 w) w fun t_42 w =>
        gate (some (t_36, false)) (fun K => pvv prog (binOp .sub 3 t_42 (.int .i64 1)) w K) w fun t_43 w =>
        gate (some (t_36, false)) (fun K => pvv prog (Instr.indexAt 31 t_41 t_43) w K) w fun t_44 w =>
        gate (some (t_36, false)) (fun K => pvv prog (Instr.fieldAt 34 t_44 1) w K) w fun t_45 w =>
        bindS (vN (Instr.loadAt 3 t_40)) fun m_47 => gate (some (t_36, false)) (fun K => ldv prog (Instr.loadAt 3 t_40) w K) w fun t_46 w =>
        bindS (vN (Instr.loadAt 3 t_45)) fun m_49 => gate (some (t_36, false)) (fun K => ldv prog (Instr.loadAt 3 t_45) w K) w fun t_48 w =>
        gate (some (t_36, false)) (fun K => pvv prog (binOp .lss 3 t_46 t_48) w K) w fun t_50 w =>
        gate (some (t_20, true)) (fun K => pv prog (oPick t_36 (.bool true) t_50) w K) w fun t_51 w =>
        pv prog (oPick t_20 t_51 (.bool false)) w fun t_52 w =>
        cd t_52 (
          K (.bool false) w) <|
        pvv prog (binOp .add 3 i_16 (.int .i64 1)) w fun t_53 w =>
        again_17 [t_53] w) <|
      Calls prog 14 #[t_0] w (Ret fun t_54 w =>
      pvv prog (Instr.extract t_54 0) w fun t_55 w =>
      pvv prog (Instr.extract t_54 1) w fun t_56 w =>
      efv prog (Instr.alloc 36 true (.tuple #[])) w fun t_57 w =>
      efu prog (Instr.storeAt 36 t_57 t_56) w fun u_58 w =>
      dr w fun w =>
      pv prog (oBi .len #[31] 3 #[false] #[t_15]) w fun t_59 w =>
      pvv prog (binOp .leq 3 t_59 (.int .i64 64)) w fun t_60 w =>
      gate (some (t_60, true)) (fun K => K t_15 w) w fun t_61 w =>
      gate (some (t_60, true)) (fun K => pv prog (oBi .len #[31] 3 #[false] #[t_61]) w K) w fun t_62 w =>
      gate (some (t_60, true)) (fun K => pvv prog (oEq .eql 3 (.tmp 80) (.const (.int .i64 0)) t_62 (.int .i64 0)) w K) w fun t_63 w =>
      gate (some (t_60, true)) (fun K => K t_63 w) w fun t_64 w =>
      gate (some (t_64, false)) (fun K => K t_15 w) w fun t_65 w =>
      gate (some (t_64, false)) (fun K => K t_15 w) w fun t_66 w =>
      gate (some (t_64, false)) (fun K => pv prog (oBi .len #[31] 3 #[false] #[t_66]) w K) w fun t_67 w =>
      gate (some (t_64, false)) (fun K => pvv prog (binOp .sub 3 t_67 (.int .i64 1)) w K) w fun t_68 w =>
      gate (some (t_64, false)) (fun K => pvv prog (Instr.indexAt 31 t_65 t_68) w K) w fun t_69 w =>
      gate (some (t_64, false)) (fun K => pvv prog (Instr.fieldAt 34 t_69 0) w K) w fun t_70 w =>
      gate (some (t_64, false)) (fun K => K t_0 w) w fun t_71 w =>
      bindS (vN (Instr.loadAt 3 t_70)) fun m_73 => gate (some (t_64, false)) (fun K => ldv prog (Instr.loadAt 3 t_70) w K) w fun t_72 w =>
      gate (some (t_64, false)) (fun K => Calls prog 15 #[t_71] w (Ret fun s_84 w => stay prog (some (t_64, false)) m_73 t_72 w <| K s_84 w)) w fun t_74 w =>
      gate (some (t_64, false)) (fun K => pvv prog (oEq .eql 3 (.tmp 89) (.tmp 91) t_72 t_74) w K) w fun t_75 w =>
      gate (some (t_60, true)) (fun K => pv prog (oPick t_64 (.bool true) t_75) w K) w fun t_76 w =>
      pv prog (oPick t_60 t_76 (.bool false)) w fun t_77 w =>
      gate (some (t_77, true)) (fun K => K t_55 w) w fun t_78 w =>
      gate (some (t_77, true)) (fun K => K t_0 w) w fun t_79 w =>
      gate (some (t_77, true)) (fun K => Calls prog 15 #[t_79] w (Ret fun s_83 w => stay prog (some (t_64, false)) m_73 t_72 w <| K s_83 w)) w fun t_80 w =>
      gate (some (t_77, true)) (fun K => pvv prog (binOp .leq 3 t_78 t_80) w K) w fun t_81 w =>
      pv prog (oPick t_77 t_81 (.bool false)) w fun t_82 w =>
      K t_82 w)) [(.int .i64 0)] w)) [(.int .i64 0)] w)))
theorem B3_eq (l_p0 : Value) (w : World) (K : Value → World → Prop) : denFn prog Tryd.f3 T3 [l_p0] w K = B3 l_p0 w K := by kernel_rfl
theorem c3 {l_p0 : Value} {w : World} {K : Value → World → Prop} (h : B3 l_p0 w K) : Calls prog 3 #[l_p0] w (Ret K) :=
  denFn_calls Tryd.func3 T3_ok (Eq.mpr (B3_eq l_p0 w K) h)

-- 16 (*holdfast/audit.Chain).Add
def T16 : Ann := (.seq .none (.seq (.block (.seq .none (.seq (.seq .none .none) (.seq .none (.seq (.seq .none .none) (.seq .none (.seq (.seq .none .none) (.seq .none (.seq (.seq .none .none) (.seq .none (.seq (.seq .none .none) .none))))))))))) (.seq .none (.seq (.draw [(0, .pure), (1, .pure), (2, .pure), (3, .pure), (5, .pure), (6, .pure), (7, .pure), (10, .pure), (11, .pure), (12, .pure), (4, .load), (8, .load), (9, .pure), (13, .load), (14, .pure), (15, .pure), (16, .load), (17, .eff), (18, .eff), (19, .pure), (20, .pure), (21, .eff)]) (.seq (.draw [(0, .pure), (1, .pure), (2, .pure), (3, .pure), (4, .load), (5, .load), (6, .eff), (7, .pure), (8, .pure), (9, .eff)]) (.seq .none (.seq .none .none)))))))
theorem T16_ok : chkFn prog Tryd.f16 T16 = true := by kernel_rfl
def B16 (c_p0 at_p1 what_p2 who_p3 : Value) (w : World) (K : Value → World → Prop) : Prop :=
  efv prog (Instr.alloc 34 true (.tuple #[])) w fun t_0 w =>
  pvv prog (oEq .eql 23 (.tmp 12) (.const (.pointer none)) c_p0 (.pointer none)) w fun t_1 w =>
  cd t_1 (
    pvv prog (Instr.build 34 #[]) w fun t_2 w =>
    efu prog (Instr.storeAt 34 t_0 t_2) w fun u_3 w =>
    ∃ r_4, (do loadVar 34 (← asAddr t_0)).run prog w = .ok r_4 w ∧ K (.tuple #[r_4, (.int .i64 1)]) w) <|
  pvv prog (binOp .lss 3 at_p1 (.int .i64 0)) w fun t_5 w =>
  gate (some (t_5, false)) (fun K => K at_p1 w) w fun t_6 w =>
  gate (some (t_5, false)) (fun K => pvv prog (binOp .gtr 3 t_6 (.int .i64 1099511627776)) w K) w fun t_7 w =>
  pv prog (oPick t_5 (.bool true) t_7) w fun t_8 w =>
  cd t_8 (
    pvv prog (Instr.build 34 #[]) w fun t_9 w =>
    efu prog (Instr.storeAt 34 t_0 t_9) w fun u_10 w =>
    ∃ r_11, (do loadVar 34 (← asAddr t_0)).run prog w = .ok r_11 w ∧ K (.tuple #[r_11, (.int .i64 2)]) w) <|
  pv prog (oBi .len #[9] 3 #[false] #[what_p2]) w fun t_12 w =>
  pvv prog (binOp .gtr 3 t_12 (.int .i64 12)) w fun t_13 w =>
  gate (some (t_13, false)) (fun K => K who_p3 w) w fun t_14 w =>
  gate (some (t_13, false)) (fun K => pv prog (oBi .len #[9] 3 #[false] #[t_14]) w K) w fun t_15 w =>
  gate (some (t_13, false)) (fun K => pvv prog (binOp .gtr 3 t_15 (.int .i64 30)) w K) w fun t_16 w =>
  pv prog (oPick t_13 (.bool true) t_16) w fun t_17 w =>
  cd t_17 (
    pvv prog (Instr.build 34 #[]) w fun t_18 w =>
    efu prog (Instr.storeAt 34 t_0 t_18) w fun u_19 w =>
    ∃ r_20, (do loadVar 34 (← asAddr t_0)).run prog w = .ok r_20 w ∧ K (.tuple #[r_20, (.int .i64 6)]) w) <|
  pv prog (oNil c_p0) w fun t_21 w =>
  pvv prog (Instr.fieldAt 59 t_21 3) w fun t_22 w =>
  ldv prog (Instr.loadAt 3 t_22) w fun t_23 w =>
  pvv prog (binOp .lss 3 at_p1 t_23) w fun t_24 w =>
  cd t_24 (
    pvv prog (Instr.build 34 #[]) w fun t_25 w =>
    efu prog (Instr.storeAt 34 t_0 t_25) w fun u_26 w =>
    ∃ r_27, (do loadVar 34 (← asAddr t_0)).run prog w = .ok r_27 w ∧ K (.tuple #[r_27, (.int .i64 9)]) w) <|
  pv prog (oNil c_p0) w fun t_28 w =>
  pvv prog (Instr.fieldAt 59 t_28 4) w fun t_29 w =>
  ldv prog (Instr.loadAt 31 t_29) w fun t_30 w =>
  pv prog (oBi .len #[31] 3 #[false] #[t_30]) w fun t_31 w =>
  pvv prog (binOp .geq 3 t_31 (.int .i64 64)) w fun t_32 w =>
  cd t_32 (
    pvv prog (Instr.build 34 #[]) w fun t_33 w =>
    efu prog (Instr.storeAt 34 t_0 t_33) w fun u_34 w =>
    ∃ r_35, (do loadVar 34 (← asAddr t_0)).run prog w = .ok r_35 w ∧ K (.tuple #[r_35, (.int .i64 26)]) w) <|
  Calls prog 15 #[c_p0] w (Ret fun t_36 w =>
  pvv prog (binOp .add 3 t_36 (.int .i64 1)) w fun t_37 w =>
  pvv prog (Instr.build 34 #[(0, t_37), (1, at_p1), (2, what_p2), (3, who_p3)]) w fun t_38 w =>
  efv prog (Instr.alloc 34 true (.tuple #[])) w fun x_39 w =>
  efu prog (Instr.storeAt 34 x_39 t_38) w fun u_40 w =>
  dr w fun w =>
  pv prog (oNil c_p0) w fun t_41 w =>
  pvv prog (Instr.fieldAt 59 t_41 4) w fun t_42 w =>
  pv prog (oNil c_p0) w fun t_43 w =>
  pvv prog (Instr.fieldAt 59 t_43 4) w fun t_44 w =>
  pv prog (oNil c_p0) w fun t_45 w =>
  pvv prog (Instr.fieldAt 59 t_45 4) w fun t_46 w =>
  bindS (vN (Instr.loadAt 31 t_42)) fun m_48 => ldv prog (Instr.loadAt 31 t_42) w fun t_47 w =>
  bindS (vN (Instr.loadAt 31 t_44)) fun m_50 => ldv prog (Instr.loadAt 31 t_44) w fun t_49 w =>
  pv prog (oBi .len #[31] 3 #[false] #[t_49]) w fun t_51 w =>
  bindS (vN (Instr.loadAt 31 t_46)) fun m_53 => ldv prog (Instr.loadAt 31 t_46) w fun t_52 w =>
  pv prog (oBi .len #[31] 3 #[false] #[t_52]) w fun t_54 w =>
  pvv prog (Instr.sliceAt 31 t_47 none (some t_51) (some t_54)) w fun t_55 w =>
  bindS (vN (Instr.loadAt 34 x_39)) fun m_57 => ldv prog (Instr.loadAt 34 x_39) w fun t_56 w =>
  efv prog (Instr.buildSlice 31 1 #[(0, t_56)]) w fun t_58 w => stay prog none m_53 t_52 w <| stay prog none m_50 t_49 w <| stay prog none m_48 t_47 w <| 
  ef prog (oBi .append #[31, 31] 31 #[false, false] #[t_55, t_58]) w fun t_59 w => stay prog none m_57 t_56 w <| stay prog none m_53 t_52 w <| stay prog none m_50 t_49 w <| stay prog none m_48 t_47 w <| 
  pv prog (oNil c_p0) w fun t_60 w =>
  pvv prog (Instr.fieldAt 59 t_60 4) w fun t_61 w =>
  efu prog (Instr.storeAt 31 t_61 t_59) w fun u_62 w =>
  dr w fun w =>
  pv prog (oNil c_p0) w fun t_63 w =>
  pvv prog (Instr.fieldAt 59 t_63 2) w fun t_64 w =>
  bindS (vN (Instr.loadAt 36 t_64)) fun m_66 => ldv prog (Instr.loadAt 36 t_64) w fun t_65 w =>
  bindS (vN (Instr.loadAt 34 x_39)) fun m_68 => ldv prog (Instr.loadAt 34 x_39) w fun t_67 w =>
  Calls prog 31 #[t_65, t_67] w (Ret fun t_69 w =>
  pv prog (oNil c_p0) w fun t_70 w =>
  pvv prog (Instr.fieldAt 59 t_70 2) w fun t_71 w =>
  efu prog (Instr.storeAt 36 t_71 t_69) w fun u_72 w =>
  pv prog (oNil c_p0) w fun t_73 w =>
  pvv prog (Instr.fieldAt 59 t_73 3) w fun t_74 w =>
  efu prog (Instr.storeAt 3 t_74 at_p1) w fun u_75 w =>
  ldv prog (Instr.loadAt 34 x_39) w fun t_76 w =>
  efu prog (Instr.storeAt 34 t_0 t_76) w fun u_77 w =>
  ∃ r_78, (do loadVar 34 (← asAddr t_0)).run prog w = .ok r_78 w ∧ K (.tuple #[r_78, (.int .i64 0)]) w))
theorem B16_eq (c_p0 at_p1 what_p2 who_p3 : Value) (w : World) (K : Value → World → Prop) : denFn prog Tryd.f16 T16 [c_p0, at_p1, what_p2, who_p3] w K = B16 c_p0 at_p1 what_p2 who_p3 w K := by kernel_rfl
theorem c16 {c_p0 at_p1 what_p2 who_p3 : Value} {w : World} {K : Value → World → Prop} (h : B16 c_p0 at_p1 what_p2 who_p3 w K) : Calls prog 16 #[c_p0, at_p1, what_p2, who_p3] w (Ret K) :=
  denFn_calls Tryd.func16 T16_ok (Eq.mpr (B16_eq c_p0 at_p1 what_p2 who_p3 w K) h)

-- 26 (*holdfast/holdfastref14.Chain).Add
def T26 : Ann := (.seq .none (.seq (.block (.seq .none (.seq (.seq .none .none) (.seq .none (.seq (.seq .none .none) (.seq .none (.seq (.seq .none .none) (.seq .none (.seq (.seq .none .none) (.seq .none (.seq (.seq .none .none) .none))))))))))) (.seq .none (.seq .none (.seq .none (.seq .none (.seq (.draw [(0, .pure), (1, .pure), (2, .pure), (3, .pure), (4, .load), (5, .load), (6, .eff), (7, .eff), (8, .pure), (9, .pure), (10, .eff)]) (.seq .none (.seq .none .none)))))))))
theorem T26_ok : chkFn prog Tryd.f26 T26 = true := by kernel_rfl
def B26 (c_p0 at_p1 what_p2 who_p3 : Value) (w : World) (K : Value → World → Prop) : Prop :=
  efv prog (Instr.alloc 34 true (.tuple #[])) w fun t_0 w =>
  pvv prog (oEq .eql 25 (.tmp 13) (.const (.pointer none)) c_p0 (.pointer none)) w fun t_1 w =>
  cd t_1 (
    pvv prog (Instr.build 34 #[]) w fun t_2 w =>
    efu prog (Instr.storeAt 34 t_0 t_2) w fun u_3 w =>
    ∃ r_4, (do loadVar 34 (← asAddr t_0)).run prog w = .ok r_4 w ∧ K (.tuple #[r_4, (.int .i64 1)]) w) <|
  pvv prog (binOp .lss 3 at_p1 (.int .i64 0)) w fun t_5 w =>
  gate (some (t_5, false)) (fun K => K at_p1 w) w fun t_6 w =>
  gate (some (t_5, false)) (fun K => pvv prog (binOp .gtr 3 t_6 (.int .i64 1099511627776)) w K) w fun t_7 w =>
  pv prog (oPick t_5 (.bool true) t_7) w fun t_8 w =>
  cd t_8 (
    pvv prog (Instr.build 34 #[]) w fun t_9 w =>
    efu prog (Instr.storeAt 34 t_0 t_9) w fun u_10 w =>
    ∃ r_11, (do loadVar 34 (← asAddr t_0)).run prog w = .ok r_11 w ∧ K (.tuple #[r_11, (.int .i64 2)]) w) <|
  pv prog (oBi .len #[9] 3 #[false] #[what_p2]) w fun t_12 w =>
  pvv prog (binOp .gtr 3 t_12 (.int .i64 12)) w fun t_13 w =>
  gate (some (t_13, false)) (fun K => K who_p3 w) w fun t_14 w =>
  gate (some (t_13, false)) (fun K => pv prog (oBi .len #[9] 3 #[false] #[t_14]) w K) w fun t_15 w =>
  gate (some (t_13, false)) (fun K => pvv prog (binOp .gtr 3 t_15 (.int .i64 30)) w K) w fun t_16 w =>
  pv prog (oPick t_13 (.bool true) t_16) w fun t_17 w =>
  cd t_17 (
    pvv prog (Instr.build 34 #[]) w fun t_18 w =>
    efu prog (Instr.storeAt 34 t_0 t_18) w fun u_19 w =>
    ∃ r_20, (do loadVar 34 (← asAddr t_0)).run prog w = .ok r_20 w ∧ K (.tuple #[r_20, (.int .i64 6)]) w) <|
  pv prog (oNil c_p0) w fun t_21 w =>
  pvv prog (Instr.fieldAt 61 t_21 2) w fun t_22 w =>
  ldv prog (Instr.loadAt 3 t_22) w fun t_23 w =>
  pvv prog (binOp .lss 3 at_p1 t_23) w fun t_24 w =>
  cd t_24 (
    pvv prog (Instr.build 34 #[]) w fun t_25 w =>
    efu prog (Instr.storeAt 34 t_0 t_25) w fun u_26 w =>
    ∃ r_27, (do loadVar 34 (← asAddr t_0)).run prog w = .ok r_27 w ∧ K (.tuple #[r_27, (.int .i64 9)]) w) <|
  pv prog (oNil c_p0) w fun t_28 w =>
  pvv prog (Instr.fieldAt 61 t_28 6) w fun t_29 w =>
  ldv prog (Instr.loadAt 31 t_29) w fun t_30 w =>
  pv prog (oBi .len #[31] 3 #[false] #[t_30]) w fun t_31 w =>
  pvv prog (binOp .geq 3 t_31 (.int .i64 64)) w fun t_32 w =>
  cd t_32 (
    pvv prog (Instr.build 34 #[]) w fun t_33 w =>
    efu prog (Instr.storeAt 34 t_0 t_33) w fun u_34 w =>
    ∃ r_35, (do loadVar 34 (← asAddr t_0)).run prog w = .ok r_35 w ∧ K (.tuple #[r_35, (.int .i64 26)]) w) <|
  Calls prog 36 #[c_p0] w (Ret fun t_36 w =>
  pvv prog (binOp .add 3 t_36 (.int .i64 1)) w fun t_37 w =>
  pvv prog (Instr.build 34 #[(0, t_37), (1, at_p1), (2, what_p2), (3, who_p3)]) w fun t_38 w =>
  efv prog (Instr.alloc 34 true (.tuple #[])) w fun x_39 w =>
  efu prog (Instr.storeAt 34 x_39 t_38) w fun u_40 w =>
  pv prog (oNil c_p0) w fun t_41 w =>
  pvv prog (Instr.fieldAt 61 t_41 6) w fun t_42 w =>
  ldv prog (Instr.loadAt 31 t_42) w fun t_43 w =>
  ef prog (oBi .append #[31, 31] 31 #[false, false] #[(.slice none 0 0), t_43]) w fun t_44 w =>
  ldv prog (Instr.loadAt 34 x_39) w fun t_45 w =>
  efv prog (Instr.buildSlice 31 1 #[(0, t_45)]) w fun t_46 w =>
  ef prog (oBi .append #[31, 31] 31 #[false, false] #[t_44, t_46]) w fun t_47 w =>
  pv prog (oNil c_p0) w fun t_48 w =>
  pvv prog (Instr.fieldAt 61 t_48 6) w fun t_49 w =>
  efu prog (Instr.storeAt 31 t_49 t_47) w fun u_50 w =>
  dr w fun w =>
  pv prog (oNil c_p0) w fun t_51 w =>
  pvv prog (Instr.fieldAt 61 t_51 5) w fun t_52 w =>
  bindS (vN (Instr.loadAt 36 t_52)) fun m_54 => ldv prog (Instr.loadAt 36 t_52) w fun t_53 w =>
  bindS (vN (Instr.loadAt 34 x_39)) fun m_56 => ldv prog (Instr.loadAt 34 x_39) w fun t_55 w =>
  Calls prog 43 #[t_55] w (Ret fun t_57 w => stay prog none m_54 t_53 w <| 
  Calls prog 42 #[t_53, t_57] w (Ret fun t_58 w => stay prog none m_56 t_55 w <| 
  pv prog (oNil c_p0) w fun t_59 w =>
  pvv prog (Instr.fieldAt 61 t_59 5) w fun t_60 w =>
  efu prog (Instr.storeAt 36 t_60 t_58) w fun u_61 w =>
  pv prog (oNil c_p0) w fun t_62 w =>
  pvv prog (Instr.fieldAt 61 t_62 2) w fun t_63 w =>
  efu prog (Instr.storeAt 3 t_63 at_p1) w fun u_64 w =>
  ldv prog (Instr.loadAt 34 x_39) w fun t_65 w =>
  efu prog (Instr.storeAt 34 t_0 t_65) w fun u_66 w =>
  ∃ r_67, (do loadVar 34 (← asAddr t_0)).run prog w = .ok r_67 w ∧ K (.tuple #[r_67, (.int .i64 0)]) w)))
theorem B26_eq (c_p0 at_p1 what_p2 who_p3 : Value) (w : World) (K : Value → World → Prop) : denFn prog Tryd.f26 T26 [c_p0, at_p1, what_p2, who_p3] w K = B26 c_p0 at_p1 what_p2 who_p3 w K := by kernel_rfl
theorem c26 {c_p0 at_p1 what_p2 who_p3 : Value} {w : World} {K : Value → World → Prop} (h : B26 c_p0 at_p1 what_p2 who_p3 w K) : Calls prog 26 #[c_p0, at_p1, what_p2, who_p3] w (Ret K) :=
  denFn_calls Tryd.func26 T26_ok (Eq.mpr (B26_eq c_p0 at_p1 what_p2 who_p3 w K) h)

-- 146 gosem.cut.vars
def T146 : Ann := (.seq .none (.seq .none (.seq .none (.seq .none (.seq .none .none)))))
theorem T146_ok : chkFn prog Tryd.f146 T146 = true := by kernel_rfl
def B146 (w : World) (K : Value → World → Prop) : Prop :=
  pvv prog (Instr.build 35 #[(0, (.int .u8 0)), (1, (.int .u8 1)), (2, (.int .u8 28)), (3, (.int .u8 2)), (4, (.int .u8 29)), (5, (.int .u8 14)), (6, (.int .u8 24)), (7, (.int .u8 3)), (8, (.int .u8 30)), (9, (.int .u8 22)), (10, (.int .u8 20)), (11, (.int .u8 15)), (12, (.int .u8 25)), (13, (.int .u8 17)), (14, (.int .u8 4)), (15, (.int .u8 8)), (16, (.int .u8 31)), (17, (.int .u8 27)), (18, (.int .u8 13)), (19, (.int .u8 23)), (20, (.int .u8 21)), (21, (.int .u8 19)), (22, (.int .u8 16)), (23, (.int .u8 7)), (24, (.int .u8 26)), (25, (.int .u8 12)), (26, (.int .u8 18)), (27, (.int .u8 6)), (28, (.int .u8 11)), (29, (.int .u8 5)), (30, (.int .u8 10)), (31, (.int .u8 9))]) w fun t_0 w =>
  efu prog (Instr.storeAt 35 (.pointer (some ⟨5, 0, none⟩)) t_0) w fun u_1 w =>
  pvv prog (Instr.build 160 #[(0, (.int .u8 0)), (1, (.int .u8 1)), (2, (.int .u8 56)), (3, (.int .u8 2)), (4, (.int .u8 57)), (5, (.int .u8 49)), (6, (.int .u8 28)), (7, (.int .u8 3)), (8, (.int .u8 61)), (9, (.int .u8 58)), (10, (.int .u8 42)), (11, (.int .u8 50)), (12, (.int .u8 38)), (13, (.int .u8 29)), (14, (.int .u8 17)), (15, (.int .u8 4)), (16, (.int .u8 62)), (17, (.int .u8 47)), (18, (.int .u8 59)), (19, (.int .u8 36)), (20, (.int .u8 45)), (21, (.int .u8 43)), (22, (.int .u8 51)), (23, (.int .u8 22)), (24, (.int .u8 53)), (25, (.int .u8 39)), (26, (.int .u8 33)), (27, (.int .u8 30)), (28, (.int .u8 24)), (29, (.int .u8 18)), (30, (.int .u8 12)), (31, (.int .u8 5)), (32, (.int .u8 63)), (33, (.int .u8 55)), (34, (.int .u8 48)), (35, (.int .u8 27)), (36, (.int .u8 60)), (37, (.int .u8 41)), (38, (.int .u8 37)), (39, (.int .u8 16)), (40, (.int .u8 46)), (41, (.int .u8 35)), (42, (.int .u8 44)), (43, (.int .u8 21)), (44, (.int .u8 52)), (45, (.int .u8 32)), (46, (.int .u8 23)), (47, (.int .u8 11)), (48, (.int .u8 54)), (49, (.int .u8 26)), (50, (.int .u8 40)), (51, (.int .u8 15)), (52, (.int .u8 34)), (53, (.int .u8 20)), (54, (.int .u8 31)), (55, (.int .u8 10)), (56, (.int .u8 25)), (57, (.int .u8 14)), (58, (.int .u8 19)), (59, (.int .u8 9)), (60, (.int .u8 13)), (61, (.int .u8 8)), (62, (.int .u8 7)), (63, (.int .u8 6))]) w fun t_2 w =>
  efu prog (Instr.storeAt 160 (.pointer (some ⟨6, 0, none⟩)) t_2) w fun u_3 w =>
  pvv prog (Instr.build 139 #[(0, (.int .u64 1)), (1, (.int .u64 10)), (2, (.int .u64 100)), (3, (.int .u64 1000)), (4, (.int .u64 10000)), (5, (.int .u64 100000)), (6, (.int .u64 1000000)), (7, (.int .u64 10000000)), (8, (.int .u64 100000000)), (9, (.int .u64 1000000000)), (10, (.int .u64 10000000000)), (11, (.int .u64 100000000000)), (12, (.int .u64 1000000000000)), (13, (.int .u64 10000000000000)), (14, (.int .u64 100000000000000)), (15, (.int .u64 1000000000000000)), (16, (.int .u64 10000000000000000)), (17, (.int .u64 100000000000000000)), (18, (.int .u64 1000000000000000000)), (19, (.int .u64 10000000000000000000))]) w fun t_4 w =>
  efu prog (Instr.storeAt 139 (.pointer (some ⟨0, 0, none⟩)) t_4) w fun u_5 w =>
  pvv prog (Instr.build 151 #[(0, (.int .u8 128)), (1, (.int .u8 191))]) w fun t_6 w =>
  pvv prog (Instr.build 151 #[(0, (.int .u8 160)), (1, (.int .u8 191))]) w fun t_7 w =>
  pvv prog (Instr.build 151 #[(0, (.int .u8 128)), (1, (.int .u8 159))]) w fun t_8 w =>
  pvv prog (Instr.build 151 #[(0, (.int .u8 144)), (1, (.int .u8 191))]) w fun t_9 w =>
  pvv prog (Instr.build 151 #[(0, (.int .u8 128)), (1, (.int .u8 143))]) w fun t_10 w =>
  pvv prog (Instr.build 152 #[(0, t_6), (1, t_7), (2, t_8), (3, t_9), (4, t_10)]) w fun t_11 w =>
  efu prog (Instr.storeAt 152 (.pointer (some ⟨4, 0, none⟩)) t_11) w fun u_12 w =>
  Calls prog 107 #[(.string ⟨#[118, 97, 108, 117, 101, 32, 111, 117, 116, 32, 111, 102, 32, 114, 97, 110, 103, 101]⟩)] w (Ret fun t_13 w =>
  efu prog (Instr.storeAt 98 (.pointer (some ⟨2, 0, none⟩)) t_13) w fun u_14 w =>
  Calls prog 107 #[(.string ⟨#[105, 110, 118, 97, 108, 105, 100, 32, 115, 121, 110, 116, 97, 120]⟩)] w (Ret fun t_15 w =>
  efu prog (Instr.storeAt 98 (.pointer (some ⟨1, 0, none⟩)) t_15) w fun u_16 w =>
  K (.tuple #[]) w))
theorem B146_eq (w : World) (K : Value → World → Prop) : denFn prog Tryd.f146 T146 [] w K = B146  w K := by kernel_rfl
theorem c146 {w : World} {K : Value → World → Prop} (h : B146  w K) : Calls prog 146 #[] w (Ret K) :=
  denFn_calls Tryd.func146 T146_ok (Eq.mpr (B146_eq  w K) h)

-- 4 holdfast/holdfastlaw14.AuditRooms
def T4 : Ann := (.seq .none (.seq .none (.seq (.seq .none (.seq (.seq .none .none) .none)) (.seq (.seq .none (.block (.loop 17592185782736 [6] (.seq (.seq .none (.seq .none .none)) (.seq (.block (.seq .none (.seq .none (.seq (.seq .none .none) .none)))) .none))))) (.seq .none (.seq .none (.seq .none (.seq .none (.seq (.seq .none (.seq (.seq .none .none) .none)) (.seq .none (.seq .none .none)))))))))))
theorem T4_ok : chkFn prog Tryd.f4 T4 = true := by kernel_rfl
def B4 (n_p0 k_p1 : Value) (w : World) (K : Value → World → Prop) : Prop :=
  Calls prog 9 #[] w (Ret fun t_0 w =>
  Calls prog 11 #[] w (Ret fun t_1 w =>
  pvv prog (Op.unary .not t_1) w fun t_2 w =>
  cd t_2 (
    K (.bool false) w) <|
  lp (fun σ w again_4 => pop σ fun i_3 σ => fin σ <|
    pvv prog (convert 5 3 n_p0) w fun t_5 w =>
    pvv prog (binOp .rem 3 t_5 (.int .i64 80)) w fun t_6 w =>
    pvv prog (binOp .lss 3 i_3 t_6) w fun t_7 w =>
    cd t_7 (
      Calls prog 16 #[t_0, i_3, (.string ⟨#[120]⟩), (.string ⟨#[121]⟩)] w (Ret fun t_8 w =>
      pvv prog (Instr.extract t_8 0) w fun t_9 w =>
      pvv prog (Instr.extract t_8 1) w fun t_10 w =>
      efv prog (Instr.alloc 34 true (.tuple #[])) w fun t_11 w =>
      efu prog (Instr.storeAt 34 t_11 t_9) w fun u_12 w =>
      pvv prog (oEq .eql 41 (.tmp 31) (.const (.int .i64 0)) t_10 (.int .i64 0)) w fun t_13 w =>
      pvv prog (binOp .lss 3 i_3 (.int .i64 64)) w fun t_14 w =>
      pvv prog (oEq .neq 4 (.tmp 32) (.tmp 34) t_13 t_14) w fun t_15 w =>
      gate (some (t_15, false)) (fun K => K t_10 w) w fun t_16 w =>
      gate (some (t_15, false)) (fun K => pvv prog (oEq .neq 41 (.tmp 37) (.const (.int .i64 0)) t_16 (.int .i64 0)) w K) w fun t_17 w =>
      gate (some (t_15, false)) (fun K => K t_17 w) w fun t_18 w =>
      gate (some (t_18, true)) (fun K => K t_10 w) w fun t_19 w =>
      gate (some (t_18, true)) (fun K => pvv prog (oEq .neq 41 (.tmp 40) (.const (.int .i64 26)) t_19 (.int .i64 26)) w K) w fun t_20 w =>
      gate (some (t_15, false)) (fun K => pv prog (oPick t_18 t_20 (.bool false)) w K) w fun t_21 w =>
      pv prog (oPick t_15 (.bool true) t_21) w fun t_22 w =>
      cd t_22 (
        K (.bool false) w) <|
      pvv prog (binOp .add 3 i_3 (.int .i64 1)) w fun t_23 w =>
      again_4 [t_23] w)) <|
    Calls prog 13 #[t_0] w (Ret fun t_24 w =>
    pv prog (oBi .len #[31] 3 #[false] #[t_24]) w fun t_25 w =>
    Calls prog 17 #[t_0] w (Ret fun t_26 w =>
    pvv prog (convert 5 3 k_p1) w fun t_27 w =>
    pvv prog (binOp .add 3 t_25 (.int .i64 1)) w fun t_28 w =>
    pvv prog (binOp .rem 3 t_27 t_28) w fun t_29 w =>
    Calls prog 18 #[t_0, t_29] w (Ret fun t_30 w =>
    pvv prog (Instr.extract t_30 0) w fun t_31 w =>
    pvv prog (Instr.extract t_30 1) w fun t_32 w =>
    pvv prog (oEq .neq 41 (.tmp 60) (.const (.int .i64 0)) t_32 (.int .i64 0)) w fun t_33 w =>
    gate (some (t_33, false)) (fun K => K t_31 w) w fun t_34 w =>
    gate (some (t_33, false)) (fun K => K t_29 w) w fun t_35 w =>
    gate (some (t_33, false)) (fun K => pvv prog (oEq .neq 3 (.tmp 63) (.tmp 64) t_34 t_35) w K) w fun t_36 w =>
    pv prog (oPick t_33 (.bool true) t_36) w fun t_37 w =>
    cd t_37 (
      K (.bool false) w) <|
    Calls prog 16 #[t_0, (.int .i64 1000), (.string ⟨#[120]⟩), (.string ⟨#[121]⟩)] w (Ret fun t_38 w =>
    pvv prog (Instr.extract t_38 0) w fun t_39 w =>
    pvv prog (Instr.extract t_38 1) w fun t_40 w =>
    efv prog (Instr.alloc 34 true (.tuple #[])) w fun t_41 w =>
    efu prog (Instr.storeAt 34 t_41 t_39) w fun u_42 w =>
    pvv prog (oEq .eql 41 (.tmp 72) (.const (.int .i64 0)) t_40 (.int .i64 0)) w fun t_43 w =>
    pvv prog (binOp .sub 3 t_25 t_29) w fun t_44 w =>
    pvv prog (binOp .lss 3 t_44 (.int .i64 64)) w fun t_45 w =>
    pvv prog (oEq .eql 4 (.tmp 73) (.tmp 77) t_43 t_45) w fun t_46 w =>
    K t_46 w))))) [(.int .i64 0)] w))
theorem B4_eq (n_p0 k_p1 : Value) (w : World) (K : Value → World → Prop) : denFn prog Tryd.f4 T4 [n_p0, k_p1] w K = B4 n_p0 k_p1 w K := by kernel_rfl
theorem c4 {n_p0 k_p1 : Value} {w : World} {K : Value → World → Prop} (h : B4 n_p0 k_p1 w K) : Calls prog 4 #[n_p0, k_p1] w (Ret K) :=
  denFn_calls Tryd.func4 T4_ok (Eq.mpr (B4_eq n_p0 k_p1 w K) h)

-- 53 holdfast/codec.ToNumber
def T53 : Ann := (.seq .none (.seq (.seq .none (.seq (.seq .none .none) .none)) (.seq .none (.seq (.seq .none (.seq (.seq .none .none) .none)) (.seq .none (.seq (.seq .none (.seq (.seq .none .none) .none)) (.seq .none .none)))))))
theorem T53_ok : chkFn prog Tryd.f53 T53 = true := by kernel_rfl
def B53 (s_p0 : Value) (w : World) (K : Value → World → Prop) : Prop :=
  pvv prog (oEq .eql 9 (.tmp 7) (.const (.string ⟨#[]⟩)) s_p0 (.string ⟨#[]⟩)) w fun t_0 w =>
  gate (some (t_0, false)) (fun K => K s_p0 w) w fun t_1 w =>
  gate (some (t_0, false)) (fun K => pvv prog (Instr.index 9 t_1 (.int .i64 0)) w K) w fun t_2 w =>
  gate (some (t_0, false)) (fun K => pvv prog (convert 5 3 t_2) w K) w fun t_3 w =>
  gate (some (t_0, false)) (fun K => K s_p0 w) w fun t_4 w =>
  gate (some (t_0, false)) (fun K => pv prog (oBi .len #[9] 3 #[false] #[t_4]) w K) w fun t_5 w =>
  gate (some (t_0, false)) (fun K => pvv prog (binOp .add 3 (.int .i64 97) t_5) w K) w fun t_6 w =>
  gate (some (t_0, false)) (fun K => pvv prog (binOp .sub 3 t_6 (.int .i64 1)) w K) w fun t_7 w =>
  gate (some (t_0, false)) (fun K => pvv prog (oEq .neq 3 (.tmp 12) (.tmp 16) t_3 t_7) w K) w fun t_8 w =>
  pv prog (oPick t_0 (.bool true) t_8) w fun t_9 w =>
  gate (some (t_9, false)) (fun K => K s_p0 w) w fun t_10 w =>
  gate (some (t_9, false)) (fun K => pv prog (oBi .len #[9] 3 #[false] #[t_10]) w K) w fun t_11 w =>
  gate (some (t_9, false)) (fun K => pvv prog (binOp .gtr 3 t_11 (.int .i64 17)) w K) w fun t_12 w =>
  pv prog (oPick t_9 (.bool true) t_12) w fun t_13 w =>
  cd t_13 (
    K (.tuple #[(.int .i64 0), (.int .i64 3)]) w) <|
  pvv prog (Instr.sliceAt 9 s_p0 (some (.int .i64 1)) none none) w fun t_14 w =>
  Calls prog 62 #[t_14, (.string ⟨#[48]⟩)] w (Ret fun t_15 w =>
  gate (some (t_15, false)) (fun K => K t_14 w) w fun t_16 w =>
  gate (some (t_15, false)) (fun K => Calls prog 63 #[t_16, (.string ⟨#[48, 49, 50, 51, 52, 53, 54, 55, 56, 57, 97, 98, 99, 100, 101, 102]⟩)] w (Ret K)) w fun t_17 w =>
  gate (some (t_15, false)) (fun K => pvv prog (oEq .neq 9 (.tmp 30) (.const (.string ⟨#[]⟩)) t_17 (.string ⟨#[]⟩)) w K) w fun t_18 w =>
  pv prog (oPick t_15 (.bool true) t_18) w fun t_19 w =>
  cd t_19 (
    K (.tuple #[(.int .i64 0), (.int .i64 3)]) w) <|
  pvv prog (binOp .add 9 (.string ⟨#[48]⟩) t_14) w fun t_20 w =>
  Calls prog 64 #[t_20, (.int .i64 16), (.int .i64 64)] w (Ret fun t_21 w =>
  pvv prog (Instr.extract t_21 0) w fun t_22 w =>
  pvv prog (Instr.extract t_21 1) w fun t_23 w =>
  pvv prog (oEq .neq 98 (.tmp 39) (.const .nilIface) t_23 .nilIface) w fun t_24 w =>
  gate (some (t_24, false)) (fun K => K t_22 w) w fun t_25 w =>
  gate (some (t_24, false)) (fun K => pvv prog (binOp .gtr 96 t_25 (.int .u64 4611686018427387904)) w K) w fun t_26 w =>
  pv prog (oPick t_24 (.bool true) t_26) w fun t_27 w =>
  cd t_27 (
    K (.tuple #[(.int .i64 0), (.int .i64 2)]) w) <|
  pvv prog (convert 96 3 t_22) w fun t_28 w =>
  K (.tuple #[t_28, (.int .i64 0)]) w))
theorem B53_eq (s_p0 : Value) (w : World) (K : Value → World → Prop) : denFn prog Tryd.f53 T53 [s_p0] w K = B53 s_p0 w K := by kernel_rfl
theorem c53 {s_p0 : Value} {w : World} {K : Value → World → Prop} (h : B53 s_p0 w K) : Calls prog 53 #[s_p0] w (Ret K) :=
  denFn_calls Tryd.func53 T53_ok (Eq.mpr (B53_eq s_p0 w K) h)

-- 56 holdfast/holdfastref02.Row
def T56 : Ann := (.seq .none (.seq (.seq .none (.seq (.seq .none .none) .none)) (.seq .none (.seq (.seq .none (.block (.loop 1099511619644 [4, 5] (.seq (.seq .none (.seq .none .none)) (.seq (.block (.seq (.seq .none (.seq (.seq .none .none) .none)) (.seq .none .none))) .none))))) (.seq (.seq .none (.seq (.seq .none .none) .none)) (.seq .none .none))))))
theorem T56_ok : chkFn prog Tryd.f56 T56 = true := by kernel_rfl
def B56 (columns_p0 : Value) (w : World) (K : Value → World → Prop) : Prop :=
  pv prog (oBi .len #[69] 3 #[false] #[columns_p0]) w fun t_0 w =>
  pvv prog (binOp .gtr 3 t_0 (.int .i64 8)) w fun t_1 w =>
  cd t_1 (
    K (.tuple #[(.slice none 0 0), (.int .i64 2)]) w) <|
  pv prog (oBi .len #[69] 3 #[false] #[columns_p0]) w fun t_2 w =>
  pvv prog (convert 3 5 t_2) w fun t_3 w =>
  efv prog (Instr.buildSlice 72 1 #[(0, t_3)]) w fun t_4 w =>
  lp (fun σ w again_7 => pop σ fun out_5 σ => pop σ fun i_6 σ => fin σ <|
    pv prog (oBi .len #[69] 3 #[false] #[columns_p0]) w fun t_8 w =>
    pvv prog (binOp .lss 3 i_6 t_8) w fun t_9 w =>
    cd t_9 (
      pvv prog (Instr.indexAt 69 columns_p0 i_6) w fun t_10 w =>
      ldv prog (Instr.loadAt 9 t_10) w fun t_11 w =>
      pv prog (oBi .len #[9] 3 #[false] #[t_11]) w fun t_12 w =>
      pvv prog (binOp .gtr 3 t_12 (.int .i64 70)) w fun t_13 w =>
      cd t_13 (
        K (.tuple #[(.slice none 0 0), (.int .i64 6)]) w) <|
      pvv prog (Instr.indexAt 69 columns_p0 i_6) w fun t_14 w =>
      ldv prog (Instr.loadAt 9 t_14) w fun t_15 w =>
      pv prog (oBi .len #[9] 3 #[false] #[t_15]) w fun t_16 w =>
      pvv prog (convert 3 5 t_16) w fun t_17 w =>
      efv prog (Instr.buildSlice 72 1 #[(0, t_17)]) w fun t_18 w =>
      ef prog (oBi .append #[72, 72] 72 #[false, false] #[out_5, t_18]) w fun t_19 w =>
      pvv prog (Instr.indexAt 69 columns_p0 i_6) w fun t_20 w =>
      ldv prog (Instr.loadAt 9 t_20) w fun t_21 w =>
      ef prog (oBi .append #[72, 9] 72 #[false, false] #[t_19, t_21]) w fun t_22 w =>
      pvv prog (binOp .add 3 i_6 (.int .i64 1)) w fun t_23 w =>
      again_7 [t_22, t_23] w) <|
    pv prog (oBi .len #[72] 3 #[false] #[out_5]) w fun t_24 w =>
    pvv prog (binOp .gtr 3 t_24 (.int .i64 72)) w fun t_25 w =>
    cd t_25 (
      K (.tuple #[(.slice none 0 0), (.int .i64 6)]) w) <|
    K (.tuple #[out_5, (.int .i64 0)]) w) [t_4, (.int .i64 0)] w
theorem B56_eq (columns_p0 : Value) (w : World) (K : Value → World → Prop) : denFn prog Tryd.f56 T56 [columns_p0] w K = B56 columns_p0 w K := by kernel_rfl
theorem c56 {columns_p0 : Value} {w : World} {K : Value → World → Prop} (h : B56 columns_p0 w K) : Calls prog 56 #[columns_p0] w (Ret K) :=
  denFn_calls Tryd.func56 T56_ok (Eq.mpr (B56_eq columns_p0 w K) h)

-- 99 math/bits.Len64
def T99 : Ann := (.seq .none (.meet 125 [0, 2] (.seq .none (.seq (.seq .none .none) .none)) (.meet 8069 [0, 2] (.seq .none (.seq (.seq .none .none) .none)) (.meet 516101 [0, 2] (.seq .none (.seq (.seq .none .none) .none)) (.seq .none .none)))))
theorem T99_ok : chkFn prog Tryd.f99 T99 = true := by kernel_rfl
def B99 (x_p0 : Value) (w : World) (K : Value → World → Prop) : Prop :=
  jn (fun σ w => pop σ fun x_0 σ => pop σ fun n_1 σ => fin σ <|
    jn (fun σ w => pop σ fun x_2 σ => pop σ fun n_3 σ => fin σ <|
      jn (fun σ w => pop σ fun x_4 σ => pop σ fun n_5 σ => fin σ <|
        pvv prog (convert 96 5 x_4) w fun t_6 w =>
        pvv prog (Instr.index 9 (.string ⟨#[0, 1, 2, 2, 3, 3, 3, 3, 4, 4, 4, 4, 4, 4, 4, 4, 5, 5, 5, 5, 5, 5, 5, 5, 5, 5, 5, 5, 5, 5, 5, 5, 6, 6, 6, 6, 6, 6, 6, 6, 6, 6, 6, 6, 6, 6, 6, 6, 6, 6, 6, 6, 6, 6, 6, 6, 6, 6, 6, 6, 6, 6, 6, 6, 7, 7, 7, 7, 7, 7, 7, 7, 7, 7, 7, 7, 7, 7, 7, 7, 7, 7, 7, 7, 7, 7, 7, 7, 7, 7, 7, 7, 7, 7, 7, 7, 7, 7, 7, 7, 7, 7, 7, 7, 7, 7, 7, 7, 7, 7, 7, 7, 7, 7, 7, 7, 7, 7, 7, 7, 7, 7, 7, 7, 7, 7, 7, 7, 8, 8, 8, 8, 8, 8, 8, 8, 8, 8, 8, 8, 8, 8, 8, 8, 8, 8, 8, 8, 8, 8, 8, 8, 8, 8, 8, 8, 8, 8, 8, 8, 8, 8, 8, 8, 8, 8, 8, 8, 8, 8, 8, 8, 8, 8, 8, 8, 8, 8, 8, 8, 8, 8, 8, 8, 8, 8, 8, 8, 8, 8, 8, 8, 8, 8, 8, 8, 8, 8, 8, 8, 8, 8, 8, 8, 8, 8, 8, 8, 8, 8, 8, 8, 8, 8, 8, 8, 8, 8, 8, 8, 8, 8, 8, 8, 8, 8, 8, 8, 8, 8, 8, 8, 8, 8, 8, 8, 8, 8, 8, 8, 8, 8, 8, 8, 8, 8, 8, 8, 8, 8, 8, 8, 8, 8, 8, 8]⟩) t_6) w fun t_7 w =>
        pvv prog (convert 5 3 t_7) w fun t_8 w =>
        pvv prog (binOp .add 3 n_5 t_8) w fun t_9 w =>
        K t_9 w) fun k_10 =>
      pvv prog (binOp .geq 96 x_2 (.int .u64 256)) w fun t_11 w =>
      cd t_11 (
        pvv prog (binOp .shr 96 x_2 (.int .u64 8)) w fun t_12 w =>
        pvv prog (binOp .add 3 n_3 (.int .i64 8)) w fun t_13 w =>
        k_10 [t_12, t_13] w) <|
      k_10 [x_2, n_3] w) fun k_14 =>
    pvv prog (binOp .geq 96 x_0 (.int .u64 65536)) w fun t_15 w =>
    cd t_15 (
      pvv prog (binOp .shr 96 x_0 (.int .u64 16)) w fun t_16 w =>
      pvv prog (binOp .add 3 n_1 (.int .i64 16)) w fun t_17 w =>
      k_14 [t_16, t_17] w) <|
    k_14 [x_0, n_1] w) fun k_18 =>
  pvv prog (binOp .geq 96 x_p0 (.int .u64 4294967296)) w fun t_19 w =>
  cd t_19 (
    pvv prog (binOp .shr 96 x_p0 (.int .u64 32)) w fun t_20 w =>
    k_18 [t_20, (.int .i64 32)] w) <|
  k_18 [x_p0, (.int .i64 0)] w
theorem B99_eq (x_p0 : Value) (w : World) (K : Value → World → Prop) : denFn prog Tryd.f99 T99 [x_p0] w K = B99 x_p0 w K := by kernel_rfl
theorem c99 {x_p0 : Value} {w : World} {K : Value → World → Prop} (h : B99 x_p0 w K) : Calls prog 99 #[x_p0] w (Ret K) :=
  denFn_calls Tryd.func99 T99_ok (Eq.mpr (B99_eq x_p0 w K) h)

-- 31 holdfast/audit.next
def T31 : Ann := (.seq .none (.seq (.draw [(0, .pure), (3, .pure), (6, .pure), (8, .pure), (1, .load), (4, .load), (7, .load), (9, .load), (2, .eff), (5, .eff), (10, .eff), (11, .eff), (12, .pure), (13, .pure), (14, .pure), (15, .pure), (16, .pure)]) (.seq .none .none)))
theorem T31_ok : chkFn prog Tryd.f31 T31 = true := by kernel_rfl
def B31 (h_p0 x_p1 : Value) (w : World) (K : Value → World → Prop) : Prop :=
  efv prog (Instr.box 36 h_p0) w fun h_0 w =>
  efv prog (Instr.box 34 x_p1) w fun x_1 w =>
  efv prog (Instr.alloc 36 true (.tuple #[])) w fun t_2 w =>
  dr w fun w =>
  pvv prog (Instr.fieldAt 34 x_1 0) w fun t_3 w =>
  pvv prog (Instr.fieldAt 34 x_1 1) w fun t_4 w =>
  pvv prog (Instr.fieldAt 34 x_1 2) w fun t_5 w =>
  pvv prog (Instr.fieldAt 34 x_1 3) w fun t_6 w =>
  bindS (vN (Instr.loadAt 3 t_3)) fun m_8 => ldv prog (Instr.loadAt 3 t_3) w fun t_7 w =>
  bindS (vN (Instr.loadAt 3 t_4)) fun m_10 => ldv prog (Instr.loadAt 3 t_4) w fun t_9 w =>
  bindS (vN (Instr.loadAt 9 t_5)) fun m_12 => ldv prog (Instr.loadAt 9 t_5) w fun t_11 w =>
  bindS (vN (Instr.loadAt 9 t_6)) fun m_14 => ldv prog (Instr.loadAt 9 t_6) w fun t_13 w =>
  Calls prog 39 #[t_7] w (Ret fun t_15 w => stay prog none m_14 t_13 w <| stay prog none m_12 t_11 w <| stay prog none m_10 t_9 w <| 
  Calls prog 39 #[t_9] w (Ret fun t_16 w => stay prog none m_14 t_13 w <| stay prog none m_12 t_11 w <| stay prog none m_8 t_7 w <| 
  efv prog (Instr.buildSlice 69 4 #[(0, t_15), (1, t_16), (2, t_11), (3, t_13)]) w fun t_17 w => stay prog none m_10 t_9 w <| stay prog none m_8 t_7 w <| 
  Calls prog 45 #[t_17] w (Ret fun t_18 w => stay prog none m_14 t_13 w <| stay prog none m_12 t_11 w <| stay prog none m_10 t_9 w <| stay prog none m_8 t_7 w <| 
  pvv prog (Instr.extract t_18 0) w fun t_19 w =>
  pvv prog (Instr.extract t_18 1) w fun t_20 w =>
  ldv prog (Instr.loadAt 36 h_0) w fun t_21 w =>
  Calls prog 46 #[t_21, t_19] w (Ret fun t_22 w =>
  efu prog (Instr.storeAt 36 t_2 t_22) w fun u_23 w =>
  ∃ r_24, (do loadVar 36 (← asAddr t_2)).run prog w = .ok r_24 w ∧ K r_24 w))))
theorem B31_eq (h_p0 x_p1 : Value) (w : World) (K : Value → World → Prop) : denFn prog Tryd.f31 T31 [h_p0, x_p1] w K = B31 h_p0 x_p1 w K := by kernel_rfl
theorem c31 {h_p0 x_p1 : Value} {w : World} {K : Value → World → Prop} (h : B31 h_p0 x_p1 w K) : Calls prog 31 #[h_p0, x_p1] w (Ret K) :=
  denFn_calls Tryd.func31 T31_ok (Eq.mpr (B31_eq h_p0 x_p1 w K) h)

-- 80 strings.trimRightUnicode
def T80 : Ann := (.seq .none (.meet 8589934561 [0] (.block (.loop 8589934561 [0] (.seq (.seq .none (.seq .none .none)) (.block (.seq .none (.meet 8323168 [5, 6] (.seq .none (.seq .none .none)) (.seq (.seq .none (.seq .none .none)) .none))))))) (.seq .none .none)))
theorem T80_ok : chkFn prog Tryd.f80 T80 = true := by kernel_rfl
def B80 (s_p0 cutset_p1 : Value) (w : World) (K : Value → World → Prop) : Prop :=
  jn (fun σ w => pop σ fun s_0 σ => fin σ <|
    K s_0 w) fun k_1 =>
  lp (fun σ w again_3 => pop σ fun s_2 σ => fin σ <|
    pv prog (oBi .len #[9] 3 #[false] #[s_2]) w fun t_4 w =>
    pvv prog (binOp .gtr 3 t_4 (.int .i64 0)) w fun t_5 w =>
    cd t_5 (
      pv prog (oBi .len #[9] 3 #[false] #[s_2]) w fun t_6 w =>
      pvv prog (binOp .sub 3 t_6 (.int .i64 1)) w fun t_7 w =>
      pvv prog (Instr.index 9 s_2 t_7) w fun t_8 w =>
      pvv prog (convert 5 21 t_8) w fun t_9 w =>
      jn (fun σ w => pop σ fun r_10 σ => pop σ fun n_11 σ => fin σ <|
        Calls prog 90 #[cutset_p1, r_10] w (Ret fun t_12 w =>
        pvv prog (Op.unary .not t_12) w fun t_13 w =>
        cd t_13 (
          k_1 [s_2] w) <|
        pv prog (oBi .len #[9] 3 #[false] #[s_2]) w fun t_14 w =>
        pvv prog (binOp .sub 3 t_14 n_11) w fun t_15 w =>
        pvv prog (Instr.sliceAt 9 s_2 none (some t_15) none) w fun t_16 w =>
        again_3 [t_16] w)) fun k_17 =>
      pvv prog (binOp .geq 21 t_9 (.int .i32 128)) w fun t_18 w =>
      cd t_18 (
        Calls prog 91 #[s_2] w (Ret fun t_19 w =>
        pvv prog (Instr.extract t_19 0) w fun t_20 w =>
        pvv prog (Instr.extract t_19 1) w fun t_21 w =>
        k_17 [t_20, t_21] w)) <|
      k_17 [t_9, (.int .i64 1)] w) <|
    k_1 [s_2] w) [s_p0] w
theorem B80_eq (s_p0 cutset_p1 : Value) (w : World) (K : Value → World → Prop) : denFn prog Tryd.f80 T80 [s_p0, cutset_p1] w K = B80 s_p0 cutset_p1 w K := by kernel_rfl
theorem c80 {s_p0 cutset_p1 : Value} {w : World} {K : Value → World → Prop} (h : B80 s_p0 cutset_p1 w K) : Calls prog 80 #[s_p0, cutset_p1] w (Ret K) :=
  denFn_calls Tryd.func80 T80_ok (Eq.mpr (B80_eq s_p0 cutset_p1 w K) h)

-- 104 strings.IndexRune
def T104 : Ann := (.seq .none (.block (.seq .none (.seq (.seq .none .none) (.seq .none (.seq (.seq (.seq .none (.block (.loop 12164183355622992813219379528005579144973741782332342384 [] (.seq .none (.seq (.seq .none .none) (.block (.seq .none (.seq .none (.seq (.seq .none .none) .none))))))))) (.seq .none .none)) (.seq .none (.seq (.seq .none .none) .none))))))))
theorem T104_ok : chkFn prog Tryd.f104 T104 = true := by kernel_rfl
def B104 (s_p0 r_p1 : Value) (w : World) (K : Value → World → Prop) : Prop :=
  pvv prog (binOp .leq 21 (.int .i32 0) r_p1) w fun t_0 w =>
  gate (some (t_0, true)) (fun K => K r_p1 w) w fun t_1 w =>
  gate (some (t_0, true)) (fun K => pvv prog (binOp .lss 21 t_1 (.int .i32 128)) w K) w fun t_2 w =>
  pv prog (oPick t_0 t_2 (.bool false)) w fun t_3 w =>
  cd t_3 (
    pvv prog (convert 21 5 r_p1) w fun t_4 w =>
    Calls prog 111 #[s_p0, t_4] w (Ret fun t_5 w =>
    K t_5 w)) <|
  pvv prog (oEq .eql 21 (.tmp 172) (.const (.int .i32 65533)) r_p1 (.int .i32 65533)) w fun t_6 w =>
  cd t_6 (
    efv prog (Instr.range 9 s_p0) w fun t_7 w =>
    lp (fun σ w again_8 => fin σ <|
      efv prog (Instr.next t_7 true 0) w fun t_9 w =>
      pvv prog (Instr.extract t_9 0) w fun t_10 w =>
      cd t_10 (
        pvv prog (Instr.extract t_9 1) w fun t_11 w =>
        pvv prog (Instr.extract t_9 2) w fun t_12 w =>
        pvv prog (oEq .eql 21 (.tmp 180) (.const (.int .i32 65533)) t_12 (.int .i32 65533)) w fun t_13 w =>
        cd t_13 (
          K t_11 w) <|
        again_8 [] w) <|
      K (.int .i64 (-1)) w) [] w) <|
  Calls prog 112 #[r_p1] w (Ret fun t_14 w =>
  pvv prog (Op.unary .not t_14) w fun t_15 w =>
  cd t_15 (
    K (.int .i64 (-1)) w) <|
  False)
theorem B104_eq (s_p0 r_p1 : Value) (w : World) (K : Value → World → Prop) : denFn prog Tryd.f104 T104 [s_p0, r_p1] w K = B104 s_p0 r_p1 w K := by kernel_rfl
theorem c104 {s_p0 r_p1 : Value} {w : World} {K : Value → World → Prop} (h : B104 s_p0 r_p1 w K) : Calls prog 104 #[s_p0, r_p1] w (Ret K) :=
  denFn_calls Tryd.func104 T104_ok (Eq.mpr (B104_eq s_p0 r_p1 w K) h)

-- 40 holdfast/audit.read
def T40 : Ann := (.seq .none (.seq (.seq .none (.seq (.seq .none .none) .none)) (.seq (.seq .none (.block (.loop 34359673328 [16] (.seq .none (.seq (.seq .none .none) (.seq (.block (.seq .none (.seq .none (.seq (.seq .none (.seq (.seq .none .none) .none)) .none)))) .none)))))) (.seq .none .none))))
theorem T40_ok : chkFn prog Tryd.f40 T40 = true := by kernel_rfl
def B40 (l_p0 to_p1 : Value) (w : World) (K : Value → World → Prop) : Prop :=
  pv prog (oBi .len #[69] 3 #[false] #[l_p0]) w fun t_0 w =>
  pv prog (oBi .len #[88] 3 #[false] #[to_p1]) w fun t_1 w =>
  pvv prog (oEq .neq 3 (.tmp 10) (.tmp 12) t_0 t_1) w fun t_2 w =>
  cd t_2 (
    K (.bool false) w) <|
  pv prog (oBi .len #[69] 3 #[false] #[l_p0]) w fun t_3 w =>
  lp (fun σ w again_5 => pop σ fun t_4 σ => fin σ <|
    pvv prog (binOp .lss 3 t_4 t_3) w fun t_6 w =>
    cd t_6 (
      pvv prog (Instr.indexAt 69 l_p0 t_4) w fun t_7 w =>
      ldv prog (Instr.loadAt 9 t_7) w fun t_8 w =>
      Calls prog 53 #[t_8] w (Ret fun t_9 w =>
      pvv prog (Instr.extract t_9 0) w fun t_10 w =>
      pvv prog (Instr.extract t_9 1) w fun t_11 w =>
      pvv prog (oEq .neq 41 (.tmp 26) (.const (.int .i64 0)) t_11 (.int .i64 0)) w fun t_12 w =>
      cd t_12 (
        K (.bool false) w) <|
      pvv prog (Instr.indexAt 88 to_p1 t_4) w fun t_13 w =>
      ldv prog (Instr.loadAt 74 t_13) w fun t_14 w =>
      pv prog (oNil t_14) w fun t_15 w =>
      efu prog (Instr.storeAt 3 t_15 t_10) w fun u_16 w =>
      pvv prog (binOp .add 3 t_4 (.int .i64 1)) w fun t_17 w =>
      again_5 [t_17] w)) <|
    K (.bool true) w) [(.int .i64 0)] w
theorem B40_eq (l_p0 to_p1 : Value) (w : World) (K : Value → World → Prop) : denFn prog Tryd.f40 T40 [l_p0, to_p1] w K = B40 l_p0 to_p1 w K := by kernel_rfl
theorem c40 {l_p0 to_p1 : Value} {w : World} {K : Value → World → Prop} (h : B40 l_p0 to_p1 w K) : Calls prog 40 #[l_p0, to_p1] w (Ret K) :=
  denFn_calls Tryd.func40 T40_ok (Eq.mpr (B40_eq l_p0 to_p1 w K) h)

-- 14 (*holdfast/audit.Chain).Anchored
def T14 : Ann := (.seq .none (.seq (.seq .none (.seq (.seq .none .none) .none)) (.seq (.draw [(0, .pure), (1, .pure), (2, .pure), (3, .pure), (5, .pure), (6, .pure), (7, .pure), (8, .pure), (4, .load), (10, .pure), (9, .load), (11, .eff)]) .none)))
theorem T14_ok : chkFn prog Tryd.f14 T14 = true := by kernel_rfl
def B14 (c_p0 : Value) (w : World) (K : Value → World → Prop) : Prop :=
  efv prog (Instr.alloc 36 true (.tuple #[])) w fun t_0 w =>
  pvv prog (oEq .eql 23 (.tmp 4) (.const (.pointer none)) c_p0 (.pointer none)) w fun t_1 w =>
  cd t_1 (
    pvv prog (Instr.build 36 #[]) w fun t_2 w =>
    efu prog (Instr.storeAt 36 t_0 t_2) w fun u_3 w =>
    ∃ r_4, (do loadVar 36 (← asAddr t_0)).run prog w = .ok r_4 w ∧ K (.tuple #[(.int .i64 0), r_4]) w) <|
  dr w fun w =>
  pv prog (oNil c_p0) w fun t_5 w =>
  pvv prog (Instr.fieldAt 59 t_5 1) w fun t_6 w =>
  pvv prog (Instr.fieldAt 57 t_6 0) w fun t_7 w =>
  pv prog (oNil c_p0) w fun t_8 w =>
  pvv prog (Instr.fieldAt 59 t_8 1) w fun t_9 w =>
  pvv prog (Instr.fieldAt 57 t_9 1) w fun t_10 w =>
  bindS (vN (Instr.loadAt 3 t_7)) fun m_12 => ldv prog (Instr.loadAt 3 t_7) w fun t_11 w =>
  bindS (vN (Instr.loadAt 36 t_10)) fun m_14 => ldv prog (Instr.loadAt 36 t_10) w fun t_13 w =>
  efu prog (Instr.storeAt 36 t_0 t_13) w fun u_15 w =>
  ∃ r_16, (do loadVar 36 (← asAddr t_0)).run prog w = .ok r_16 w ∧ K (.tuple #[t_11, r_16]) w
theorem B14_eq (c_p0 : Value) (w : World) (K : Value → World → Prop) : denFn prog Tryd.f14 T14 [c_p0] w K = B14 c_p0 w K := by kernel_rfl
theorem c14 {c_p0 : Value} {w : World} {K : Value → World → Prop} (h : B14 c_p0 w K) : Calls prog 14 #[c_p0] w (Ret K) :=
  denFn_calls Tryd.func14 T14_ok (Eq.mpr (B14_eq c_p0 w K) h)

-- 15 (*holdfast/audit.Chain).Count
def T15 : Ann := (.seq .none (.seq (.seq .none (.seq (.seq .none .none) .none)) (.seq (.draw [(0, .pure), (1, .pure), (2, .pure), (3, .pure), (5, .pure), (6, .pure), (7, .pure), (4, .load), (8, .load), (9, .pure), (10, .pure), (11, .pure)]) .none)))
theorem T15_ok : chkFn prog Tryd.f15 T15 = true := by kernel_rfl
def B15 (c_p0 : Value) (w : World) (K : Value → World → Prop) : Prop :=
  pvv prog (oEq .eql 23 (.tmp 3) (.const (.pointer none)) c_p0 (.pointer none)) w fun t_0 w =>
  cd t_0 (
    K (.int .i64 0) w) <|
  dr w fun w =>
  pv prog (oNil c_p0) w fun t_1 w =>
  pvv prog (Instr.fieldAt 59 t_1 0) w fun t_2 w =>
  pvv prog (Instr.fieldAt 57 t_2 0) w fun t_3 w =>
  pv prog (oNil c_p0) w fun t_4 w =>
  pvv prog (Instr.fieldAt 59 t_4 4) w fun t_5 w =>
  bindS (vN (Instr.loadAt 3 t_3)) fun m_7 => ldv prog (Instr.loadAt 3 t_3) w fun t_6 w =>
  bindS (vN (Instr.loadAt 31 t_5)) fun m_9 => ldv prog (Instr.loadAt 31 t_5) w fun t_8 w =>
  pv prog (oBi .len #[31] 3 #[false] #[t_8]) w fun t_10 w =>
  pvv prog (binOp .add 3 t_6 t_10) w fun t_11 w =>
  K t_11 w
theorem B15_eq (c_p0 : Value) (w : World) (K : Value → World → Prop) : denFn prog Tryd.f15 T15 [c_p0] w K = B15 c_p0 w K := by kernel_rfl
theorem c15 {c_p0 : Value} {w : World} {K : Value → World → Prop} (h : B15 c_p0 w K) : Calls prog 15 #[c_p0] w (Ret K) :=
  denFn_calls Tryd.func15 T15_ok (Eq.mpr (B15_eq c_p0 w K) h)

-- 89 unicode/utf8.DecodeRuneInString
def T89 : Ann := (.seq .none (.seq (.seq .none (.seq (.seq .none .none) .none)) .none))
theorem T89_ok : chkFn prog Tryd.f89 T89 = true := by kernel_rfl
def B89 (s_p0 : Value) (w : World) (K : Value → World → Prop) : Prop :=
  pvv prog (oEq .neq 9 (.tmp 4) (.const (.string ⟨#[]⟩)) s_p0 (.string ⟨#[]⟩)) w fun t_0 w =>
  gate (some (t_0, true)) (fun K => K s_p0 w) w fun t_1 w =>
  gate (some (t_0, true)) (fun K => pvv prog (Instr.index 9 t_1 (.int .i64 0)) w K) w fun t_2 w =>
  gate (some (t_0, true)) (fun K => pvv prog (binOp .lss 5 t_2 (.int .u8 128)) w K) w fun t_3 w =>
  pv prog (oPick t_0 t_3 (.bool false)) w fun t_4 w =>
  cd t_4 (
    pvv prog (Instr.index 9 s_p0 (.int .i64 0)) w fun t_5 w =>
    pvv prog (convert 5 21 t_5) w fun t_6 w =>
    K (.tuple #[t_6, (.int .i64 1)]) w) <|
  Calls prog 103 #[s_p0] w (Ret fun t_7 w =>
  pvv prog (Instr.extract t_7 0) w fun t_8 w =>
  pvv prog (Instr.extract t_7 1) w fun t_9 w =>
  K (.tuple #[t_8, t_9]) w)
theorem B89_eq (s_p0 : Value) (w : World) (K : Value → World → Prop) : denFn prog Tryd.f89 T89 [s_p0] w K = B89 s_p0 w K := by kernel_rfl
theorem c89 {s_p0 : Value} {w : World} {K : Value → World → Prop} (h : B89 s_p0 w K) : Calls prog 89 #[s_p0] w (Ret K) :=
  denFn_calls Tryd.func89 T89_ok (Eq.mpr (B89_eq s_p0 w K) h)

-- 112 unicode/utf8.ValidRune
def T112 : Ann := (.seq .none (.seq (.block (.seq .none (.seq (.seq .none .none) (.seq .none (.seq (.seq .none .none) .none))))) (.seq .none .none)))
theorem T112_ok : chkFn prog Tryd.f112 T112 = true := by kernel_rfl
def B112 (r_p0 : Value) (w : World) (K : Value → World → Prop) : Prop :=
  pvv prog (binOp .leq 21 (.int .i32 0) r_p0) w fun t_0 w =>
  gate (some (t_0, true)) (fun K => K r_p0 w) w fun t_1 w =>
  gate (some (t_0, true)) (fun K => pvv prog (binOp .lss 21 t_1 (.int .i32 55296)) w K) w fun t_2 w =>
  pv prog (oPick t_0 t_2 (.bool false)) w fun t_3 w =>
  cd t_3 (
    K (.bool true) w) <|
  pvv prog (binOp .lss 21 (.int .i32 57343) r_p0) w fun t_4 w =>
  gate (some (t_4, true)) (fun K => K r_p0 w) w fun t_5 w =>
  gate (some (t_4, true)) (fun K => pvv prog (binOp .leq 21 t_5 (.int .i32 1114111)) w K) w fun t_6 w =>
  pv prog (oPick t_4 t_6 (.bool false)) w fun t_7 w =>
  cd t_7 (
    K (.bool true) w) <|
  K (.bool false) w
theorem B112_eq (r_p0 : Value) (w : World) (K : Value → World → Prop) : denFn prog Tryd.f112 T112 [r_p0] w K = B112 r_p0 w K := by kernel_rfl
theorem c112 {r_p0 : Value} {w : World} {K : Value → World → Prop} (h : B112 r_p0 w K) : Calls prog 112 #[r_p0] w (Ret K) :=
  denFn_calls Tryd.func112 T112_ok (Eq.mpr (B112_eq r_p0 w K) h)

-- 19 (*holdfast/audit.Chain).Head
def T19 : Ann := (.seq .none (.seq (.seq .none (.seq (.seq .none .none) .none)) (.seq .none .none)))
theorem T19_ok : chkFn prog Tryd.f19 T19 = true := by kernel_rfl
def B19 (c_p0 : Value) (w : World) (K : Value → World → Prop) : Prop :=
  efv prog (Instr.alloc 36 true (.tuple #[])) w fun t_0 w =>
  pvv prog (oEq .eql 23 (.tmp 3) (.const (.pointer none)) c_p0 (.pointer none)) w fun t_1 w =>
  cd t_1 (
    pvv prog (Instr.build 36 #[]) w fun t_2 w =>
    efu prog (Instr.storeAt 36 t_0 t_2) w fun u_3 w =>
    ∃ r_4, (do loadVar 36 (← asAddr t_0)).run prog w = .ok r_4 w ∧ K r_4 w) <|
  pv prog (oNil c_p0) w fun t_5 w =>
  pvv prog (Instr.fieldAt 59 t_5 2) w fun t_6 w =>
  ldv prog (Instr.loadAt 36 t_6) w fun t_7 w =>
  efu prog (Instr.storeAt 36 t_0 t_7) w fun u_8 w =>
  ∃ r_9, (do loadVar 36 (← asAddr t_0)).run prog w = .ok r_9 w ∧ K r_9 w
theorem B19_eq (c_p0 : Value) (w : World) (K : Value → World → Prop) : denFn prog Tryd.f19 T19 [c_p0] w K = B19 c_p0 w K := by kernel_rfl
theorem c19 {c_p0 : Value} {w : World} {K : Value → World → Prop} (h : B19 c_p0 w K) : Calls prog 19 #[c_p0] w (Ret K) :=
  denFn_calls Tryd.func19 T19_ok (Eq.mpr (B19_eq c_p0 w K) h)

-- 24 (*holdfast/audit.Chain).Rows
def T24 : Ann := (.seq .none (.seq (.seq .none (.seq (.seq .none .none) .none)) (.seq .none (.seq (.seq .none (.block (.loop 151115655394234608910376 [3, 56] (.seq .none (.seq (.seq .none .none) (.seq (.block (.seq .none (.draw [(0, .pure), (1, .pure), (5, .pure), (8, .pure), (10, .pure), (2, .load), (6, .load), (9, .load), (11, .load), (3, .eff), (4, .pure), (7, .eff), (12, .eff), (13, .pure), (14, .eff), (15, .eff), (16, .pure)]))) .none)))))) (.seq .none .none)))))
theorem T24_ok : chkFn prog Tryd.f24 T24 = true := by kernel_rfl
def B24 (c_p0 : Value) (w : World) (K : Value → World → Prop) : Prop :=
  pvv prog (oEq .eql 23 (.tmp 6) (.const (.pointer none)) c_p0 (.pointer none)) w fun t_0 w =>
  cd t_0 (
    K (.slice none 0 0) w) <|
  False
theorem B24_eq (c_p0 : Value) (w : World) (K : Value → World → Prop) : denFn prog Tryd.f24 T24 [c_p0] w K = B24 c_p0 w K := by kernel_rfl
theorem c24 {c_p0 : Value} {w : World} {K : Value → World → Prop} (h : B24 c_p0 w K) : Calls prog 24 #[c_p0] w (Ret K) :=
  denFn_calls Tryd.func24 T24_ok (Eq.mpr (B24_eq c_p0 w K) h)

-- 94 strconv.syntaxError
def T94 : Ann := (.seq .none (.seq (.draw [(0, .pure), (1, .pure), (3, .load), (2, .eff), (4, .pure), (5, .eff), (6, .pure)]) .none))
theorem T94_ok : chkFn prog Tryd.f94 T94 = true := by kernel_rfl
def B94 (fn_p0 str_p1 : Value) (w : World) (K : Value → World → Prop) : Prop :=
  dr w fun w =>
  bindS (vN (Instr.loadAt 98 (.pointer (some ⟨1, 0, none⟩)))) fun m_1 => ldv prog (Instr.loadAt 98 (.pointer (some ⟨1, 0, none⟩))) w fun t_0 w =>
  Calls prog 106 #[str_p1] w (Ret fun t_2 w => stay prog none m_1 t_0 w <| 
  pvv prog (Instr.build 146 #[(0, fn_p0), (1, t_2), (2, t_0)]) w fun t_3 w =>
  efv prog (Instr.box 146 t_3) w fun t_4 w => stay prog none m_1 t_0 w <| 
  K t_4 w)
theorem B94_eq (fn_p0 str_p1 : Value) (w : World) (K : Value → World → Prop) : denFn prog Tryd.f94 T94 [fn_p0, str_p1] w K = B94 fn_p0 str_p1 w K := by kernel_rfl
theorem c94 {fn_p0 str_p1 : Value} {w : World} {K : Value → World → Prop} (h : B94 fn_p0 str_p1 w K) : Calls prog 94 #[fn_p0, str_p1] w (Ret K) :=
  denFn_calls Tryd.func94 T94_ok (Eq.mpr (B94_eq fn_p0 str_p1 w K) h)

-- 42 holdfast/holdfastref07.Chain
def T42 : Ann := (.seq .none (.seq .none (.seq .none .none)))
theorem T42_ok : chkFn prog Tryd.f42 T42 = true := by kernel_rfl
def B42 (h_p0 b_p1 : Value) (w : World) (K : Value → World → Prop) : Prop :=
  efv prog (Instr.box 36 h_p0) w fun h_0 w =>
  efv prog (Instr.alloc 36 true (.tuple #[])) w fun t_1 w =>
  ldv prog (Instr.loadAt 36 h_0) w fun t_2 w =>
  Calls prog 54 #[t_2] w (Ret fun t_3 w =>
  ef prog (oBi .append #[72, 72] 72 #[false, false] #[t_3, b_p1]) w fun t_4 w =>
  Calls prog 55 #[t_4] w (Ret fun t_5 w =>
  efu prog (Instr.storeAt 36 t_1 t_5) w fun u_6 w =>
  ∃ r_7, (do loadVar 36 (← asAddr t_1)).run prog w = .ok r_7 w ∧ K r_7 w))
theorem B42_eq (h_p0 b_p1 : Value) (w : World) (K : Value → World → Prop) : denFn prog Tryd.f42 T42 [h_p0, b_p1] w K = B42 h_p0 b_p1 w K := by kernel_rfl
theorem c42 {h_p0 b_p1 : Value} {w : World} {K : Value → World → Prop} (h : B42 h_p0 b_p1 w K) : Calls prog 42 #[h_p0, b_p1] w (Ret K) :=
  denFn_calls Tryd.func42 T42_ok (Eq.mpr (B42_eq h_p0 b_p1 w K) h)

-- 13 (*holdfast/audit.Chain).Events
def T13 : Ann := (.seq .none (.seq (.seq .none (.seq (.seq .none .none) .none)) (.seq .none .none)))
theorem T13_ok : chkFn prog Tryd.f13 T13 = true := by kernel_rfl
def B13 (c_p0 : Value) (w : World) (K : Value → World → Prop) : Prop :=
  pvv prog (oEq .eql 23 (.tmp 3) (.const (.pointer none)) c_p0 (.pointer none)) w fun t_0 w =>
  cd t_0 (
    K (.slice none 0 0) w) <|
  pv prog (oNil c_p0) w fun t_1 w =>
  pvv prog (Instr.fieldAt 59 t_1 4) w fun t_2 w =>
  ldv prog (Instr.loadAt 31 t_2) w fun t_3 w =>
  Calls prog 30 #[t_3] w (Ret fun t_4 w =>
  K t_4 w)
theorem B13_eq (c_p0 : Value) (w : World) (K : Value → World → Prop) : denFn prog Tryd.f13 T13 [c_p0] w K = B13 c_p0 w K := by kernel_rfl
theorem c13 {c_p0 : Value} {w : World} {K : Value → World → Prop} (h : B13 c_p0 w K) : Calls prog 13 #[c_p0] w (Ret K) :=
  denFn_calls Tryd.func13 T13_ok (Eq.mpr (B13_eq c_p0 w K) h)

-- 102 math/bits.TrailingZeros
def T102 : Ann := (.seq .none (.seq (.seq (.seq .none .none) .none) (.seq .none .none)))
theorem T102_ok : chkFn prog Tryd.f102 T102 = true := by kernel_rfl
def B102 (x_p0 : Value) (w : World) (K : Value → World → Prop) : Prop :=
  cd (.bool false) (
    pvv prog (convert 104 101 x_p0) w fun t_0 w =>
    Calls prog 109 #[t_0] w (Ret fun t_1 w =>
    K t_1 w)) <|
  Calls prog 110 #[x_p0] w (Ret fun t_2 w =>
  K t_2 w)
theorem B102_eq (x_p0 : Value) (w : World) (K : Value → World → Prop) : denFn prog Tryd.f102 T102 [x_p0] w K = B102 x_p0 w K := by kernel_rfl
theorem c102 {x_p0 : Value} {w : World} {K : Value → World → Prop} (h : B102 x_p0 w K) : Calls prog 102 #[x_p0] w (Ret K) :=
  denFn_calls Tryd.func102 T102_ok (Eq.mpr (B102_eq x_p0 w K) h)

-- 88 (*strings.asciiSet).contains
def T88 : Ann := (.seq .none (.seq .none .none))
theorem T88_ok : chkFn prog Tryd.f88 T88 = true := by kernel_rfl
def B88 (as_p0 c_p1 : Value) (w : World) (K : Value → World → Prop) : Prop :=
  pv prog (oNil as_p0) w fun t_0 w =>
  pvv prog (Instr.indexAt 115 t_0 c_p1) w fun t_1 w =>
  ldv prog (Instr.loadAt 4 t_1) w fun t_2 w =>
  K t_2 w
theorem B88_eq (as_p0 c_p1 : Value) (w : World) (K : Value → World → Prop) : denFn prog Tryd.f88 T88 [as_p0, c_p1] w K = B88 as_p0 c_p1 w K := by kernel_rfl
theorem c88 {as_p0 c_p1 : Value} {w : World} {K : Value → World → Prop} (h : B88 as_p0 c_p1 w K) : Calls prog 88 #[as_p0, c_p1] w (Ret K) :=
  denFn_calls Tryd.func88 T88_ok (Eq.mpr (B88_eq as_p0 c_p1 w K) h)

-- 49 holdfast/holdfastref11.Num
def T49 : Ann := (.seq .none (.seq .none (.seq .none .none)))
theorem T49_ok : chkFn prog Tryd.f49 T49 = true := by kernel_rfl
def B49 (n_p0 : Value) (w : World) (K : Value → World → Prop) : Prop :=
  Calls prog 58 #[n_p0] w (Ret fun t_0 w =>
  pvv prog (Instr.extract t_0 0) w fun t_1 w =>
  pvv prog (Instr.extract t_0 1) w fun t_2 w =>
  K t_1 w)
theorem B49_eq (n_p0 : Value) (w : World) (K : Value → World → Prop) : denFn prog Tryd.f49 T49 [n_p0] w K = B49 n_p0 w K := by kernel_rfl
theorem c49 {n_p0 : Value} {w : World} {K : Value → World → Prop} (h : B49 n_p0 w K) : Calls prog 49 #[n_p0] w (Ret K) :=
  denFn_calls Tryd.func49 T49_ok (Eq.mpr (B49_eq n_p0 w K) h)

-- 116 internal/stringslite.IndexByte
def T116 : Ann := (.seq .none (.seq .none .none))
theorem T116_ok : chkFn prog Tryd.f116 T116 = true := by kernel_rfl
def B116 (s_p0 c_p1 : Value) (w : World) (K : Value → World → Prop) : Prop :=
  ef prog (oCall (.func (.func 117) #[] #[]) #[s_p0, c_p1]) w fun t_0 w =>
  K t_0 w
theorem B116_eq (s_p0 c_p1 : Value) (w : World) (K : Value → World → Prop) : denFn prog Tryd.f116 T116 [s_p0, c_p1] w K = B116 s_p0 c_p1 w K := by kernel_rfl
theorem c116 {s_p0 c_p1 : Value} {w : World} {K : Value → World → Prop} (h : B116 s_p0 c_p1 w K) : Calls prog 116 #[s_p0, c_p1] w (Ret K) :=
  denFn_calls Tryd.func116 T116_ok (Eq.mpr (B116_eq s_p0 c_p1 w K) h)

-- 62 strings.HasPrefix
def T62 : Ann := (.seq .none (.seq .none .none))
theorem T62_ok : chkFn prog Tryd.f62 T62 = true := by kernel_rfl
def B62 (s_p0 prefix_p1 : Value) (w : World) (K : Value → World → Prop) : Prop :=
  Calls prog 73 #[s_p0, prefix_p1] w (Ret fun t_0 w =>
  K t_0 w)
theorem B62_eq (s_p0 prefix_p1 : Value) (w : World) (K : Value → World → Prop) : denFn prog Tryd.f62 T62 [s_p0, prefix_p1] w K = B62 s_p0 prefix_p1 w K := by kernel_rfl
theorem c62 {s_p0 prefix_p1 : Value} {w : World} {K : Value → World → Prop} (h : B62 s_p0 prefix_p1 w K) : Calls prog 62 #[s_p0, prefix_p1] w (Ret K) :=
  denFn_calls Tryd.func62 T62_ok (Eq.mpr (B62_eq s_p0 prefix_p1 w K) h)

-- 61 strconv.FormatInt
def T61 : Ann := (.seq .none (.seq .none .none))
theorem T61_ok : chkFn prog Tryd.f61 T61 = true := by kernel_rfl
def B61 (i_p0 base_p1 : Value) (w : World) (K : Value → World → Prop) : Prop :=
  Calls prog 72 #[i_p0, base_p1] w (Ret fun t_0 w =>
  K t_0 w)
theorem B61_eq (i_p0 base_p1 : Value) (w : World) (K : Value → World → Prop) : denFn prog Tryd.f61 T61 [i_p0, base_p1] w K = B61 i_p0 base_p1 w K := by kernel_rfl
theorem c61 {i_p0 base_p1 : Value} {w : World} {K : Value → World → Prop} (h : B61 i_p0 base_p1 w K) : Calls prog 61 #[i_p0, base_p1] w (Ret K) :=
  denFn_calls Tryd.func61 T61_ok (Eq.mpr (B61_eq i_p0 base_p1 w K) h)

-- 10 holdfast/holdfastref14.New
def T10 : Ann := (.seq .none (.seq .none .none))
theorem T10_ok : chkFn prog Tryd.f10 T10 = true := by kernel_rfl
def B10 (w : World) (K : Value → World → Prop) : Prop :=
  pvv prog (Instr.build 61 #[]) w fun t_0 w =>
  efv prog (Instr.box 61 t_0) w fun t_1 w =>
  K t_1 w
theorem B10_eq (w : World) (K : Value → World → Prop) : denFn prog Tryd.f10 T10 [] w K = B10  w K := by kernel_rfl
theorem c10 {w : World} {K : Value → World → Prop} (h : B10  w K) : Calls prog 10 #[] w (Ret K) :=
  denFn_calls Tryd.func10 T10_ok (Eq.mpr (B10_eq  w K) h)


end Go.Proofs.YtjeiojibnmfibaaDoor
