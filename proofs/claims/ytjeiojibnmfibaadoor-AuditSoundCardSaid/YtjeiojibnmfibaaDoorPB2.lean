import Derived.Test.YtjeiojibnmfibaaDoorPI
set_option linter.all false
set_option maxRecDepth 100000
namespace Go.Proofs.YtjeiojibnmfibaaDoor
open Go Hold
-- 25 holdfast/audit.Load
def T25 : Ann := (.seq .none (.seq .none (.seq (.seq (.draw [.op 0 .pure, .op 1 .pure, .op 2 .pure, .op 3 .pure, .op 4 .pure, .op 5 .pure, .op 6 .pure, .op 7 .pure, .op 8 .pure, .op 9 .pure, .op 10 .pure, .op 11 .pure, .op 12 .load, .op 13 .pure, .op 14 .pure, .op 15 .pure, .op 16 .pure, .op 17 .pure, .op 18 .pure, .op 20 .pure, .op 21 .pure, .op 22 .pure, .op 23 .pure, .op 24 .pure, .op 25 .pure, .op 26 .pure, .op 27 .pure, .op 28 .pure, .op 29 .pure, .op 30 .pure, .op 19 .load, .op 31 .eff, .op 32 .eff, .op 33 .pure, .op 34 .pure]) (.seq (.seq .none .none) .none)) (.seq (.draw [.op 0 .pure, .op 1 .pure, .op 2 .pure, .op 3 .pure, .op 5 .pure, .op 6 .pure, .op 7 .pure, .op 8 .pure, .op 10 .pure, .op 11 .pure, .op 12 .pure, .op 4 .load, .op 9 .load, .op 13 .load, .op 14 .pure, .op 15 .pure, .op 16 .pure, .op 17 .pure, .op 18 .pure, .op 19 .pure, .op 20 .pure, .op 22 .pure, .op 23 .pure, .op 24 .pure, .op 25 .pure, .op 27 .pure, .op 28 .pure, .op 21 .load, .op 26 .load, .op 29 .pure, .op 30 .pure, .op 31 .pure, .op 32 .pure, .op 33 .pure]) (.seq (.seq (.draw [.op 0 .pure, .op 1 .pure, .op 2 .pure, .op 3 .pure, .op 4 .pure, .op 6 .pure, .op 7 .pure, .op 8 .pure, .op 9 .pure, .op 5 .load, .op 10 .eff, .op 11 .pure, .op 12 .pure, .op 13 .pure, .op 14 .pure, .op 15 .pure, .op 17 .pure, .op 18 .pure, .op 19 .pure, .op 20 .pure, .op 16 .load, .op 21 .eff, .op 22 .pure, .op 23 .pure, .op 24 .pure, .op 25 .pure, .op 26 .pure, .op 28 .pure, .op 29 .pure, .op 30 .pure, .op 27 .load, .op 31 .eff, .op 32 .pure, .op 33 .pure]) (.seq (.seq .none .none) .none)) (.seq .none (.seq (.seq .none (.block (.loop 1606938044258990275541962009264412865964960937294851567780812 [6, 116] (.seq .none (.seq (.seq .none .none) (.seq (.block (.seq .none (.seq .none (.seq (.seq (.draw [.op 0 .pure, .op 2 .pure, .op 1 .load, .op 3 .load, .op 4 .eff, .op 5 .pure, .op 6 .pure, .op 7 .pure, .op 8 .pure, .op 9 .load, .op 10 .pure, .op 11 .pure, .op 12 .pure, .op 13 .pure, .op 14 .pure, .op 17 .pure, .op 15 .load, .op 16 .pure, .op 18 .eff, .op 19 .eff, .op 20 .pure, .op 21 .pure]) (.seq (.seq .none .none) .none)) (.seq (.draw [.op 0 .pure, .op 4 .pure, .op 1 .load, .op 2 .pure, .op 3 .load, .op 5 .load, .op 6 .pure, .op 7 .load, .op 8 .pure, .op 9 .eff, .op 10 .pure, .op 11 .eff]) (.seq (.seq (.draw [.op 0 .pure, .op 1 .load, .op 2 .pure, .op 3 .pure, .op 4 .pure, .op 5 .pure, .op 6 .load, .op 7 .pure, .op 8 .pure, .op 9 .pure, .op 10 .pure, .op 11 .pure, .op 13 .pure, .op 12 .load, .op 14 .pure, .op 15 .pure, .op 16 .pure, .op 17 .pure, .op 19 .pure, .op 20 .pure, .op 21 .pure, .op 18 .load, .op 22 .load, .op 23 .pure, .op 24 .pure]) (.seq (.seq .none .none) .none)) (.seq .none (.draw [.op 0 .pure, .op 1 .pure, .op 2 .pure, .op 3 .pure, .op 4 .load, .op 5 .load, .op 6 .eff, .op 7 .eff, .op 8 .pure, .op 9 .pure, .op 10 .eff])))))))) .none)))))) (.seq .none .none))))))))
theorem T25_ok : chkFn prog Tryd.f25 T25 = true := by kernel_rfl
def B25 (rows_p0 : Value) (w : World) (K : Value → World → Prop) : Prop :=
  Calls prog 9 #[] w (Ret fun t_0 w =>
  dr w fun w =>
  pv prog (oBi .len #[51] 3 #[false] #[rows_p0]) w fun t_1 w =>
  pvv prog (binOp .lss 3 t_1 (.int .i64 4)) w fun t_2 w =>
  gate (some (t_2, false)) (fun K => K rows_p0 w) w fun t_3 w =>
  gate (some (t_2, false)) (fun K => pv prog (oBi .len #[51] 3 #[false] #[t_3]) w K) w fun t_4 w =>
  gate (some (t_2, false)) (fun K => pvv prog (binOp .gtr 3 t_4 (.int .i64 68)) w K) w fun t_5 w =>
  pv prog (oPick t_2 (.bool true) t_5) w fun t_6 w =>
  gate (some (t_6, false)) (fun K => K rows_p0 w) w fun t_7 w =>
  gate (some (t_6, false)) (fun K => pvv prog (Instr.indexAt 51 t_7 (.int .i64 0)) w K) w fun t_8 w =>
  gate (some (t_6, false)) (fun K => pvv prog (Instr.fieldAt 71 t_8 0) w K) w fun t_9 w =>
  bindS (vN (Instr.loadAt 9 t_9)) fun m_11 => gate (some (t_6, false)) (fun K => ldv prog (Instr.loadAt 9 t_9) w K) w fun t_10 w =>
  gate (some (t_6, false)) (fun K => pvv prog (oEq .neq 9 (.tmp 23) (.const (.string ⟨#[35]⟩)) t_10 (.string ⟨#[35]⟩)) w K) w fun t_12 w =>
  pv prog (oPick t_6 (.bool true) t_12) w fun t_13 w =>
  gate (some (t_13, false)) (fun K => K rows_p0 w) w fun t_14 w =>
  gate (some (t_13, false)) (fun K => pvv prog (Instr.indexAt 51 t_14 (.int .i64 0)) w K) w fun t_15 w =>
  gate (some (t_13, false)) (fun K => pvv prog (Instr.fieldAt 71 t_15 1) w K) w fun t_16 w =>
  gate (some (t_13, false)) (fun K => K t_0 w) w fun t_17 w =>
  gate (some (t_13, false)) (fun K => pv prog (oNil t_17) w K) w fun t_18 w =>
  gate (some (t_13, false)) (fun K => pvv prog (Instr.fieldAt 59 t_18 0) w K) w fun t_19 w =>
  gate (some (t_13, false)) (fun K => pvv prog (Instr.fieldAt 57 t_19 0) w K) w fun t_20 w =>
  gate (some (t_13, false)) (fun K => K t_0 w) w fun t_21 w =>
  gate (some (t_13, false)) (fun K => pv prog (oNil t_21) w K) w fun t_22 w =>
  gate (some (t_13, false)) (fun K => pvv prog (Instr.fieldAt 59 t_22 1) w K) w fun t_23 w =>
  gate (some (t_13, false)) (fun K => pvv prog (Instr.fieldAt 57 t_23 0) w K) w fun t_24 w =>
  gate (some (t_13, false)) (fun K => K t_0 w) w fun t_25 w =>
  gate (some (t_13, false)) (fun K => pv prog (oNil t_25) w K) w fun t_26 w =>
  gate (some (t_13, false)) (fun K => pvv prog (Instr.fieldAt 59 t_26 3) w K) w fun t_27 w =>
  bindS (vN (Instr.loadAt 69 t_16)) fun m_29 => gate (some (t_13, false)) (fun K => ldv prog (Instr.loadAt 69 t_16) w K) w fun t_28 w =>
  gate (some (t_13, false)) (fun K => efv prog (Instr.buildSlice 88 3 #[(0, t_20), (1, t_24), (2, t_27)]) w fun s_213 w => stay prog (some (t_13, false)) m_29 t_28 w <| stay prog (some (t_6, false)) m_11 t_10 w <| K s_213 w) w fun t_30 w =>
  gate (some (t_13, false)) (fun K => Calls prog 40 #[t_28, t_30] w (Ret fun s_212 w => stay prog (some (t_6, false)) m_11 t_10 w <| K s_212 w)) w fun t_31 w =>
  gate (some (t_13, false)) (fun K => pvv prog (Op.unary .not t_31) w K) w fun t_32 w =>
  pv prog (oPick t_13 (.bool true) t_32) w fun t_33 w =>
  cd t_33 (
    K (.tuple #[(.pointer none), (.int .i64 3)]) w) <|
  dr w fun w =>
  pv prog (oNil t_0) w fun t_34 w =>
  pvv prog (Instr.fieldAt 59 t_34 0) w fun t_35 w =>
  pvv prog (Instr.fieldAt 57 t_35 0) w fun t_36 w =>
  pv prog (oNil t_0) w fun t_37 w =>
  pvv prog (Instr.fieldAt 59 t_37 1) w fun t_38 w =>
  pvv prog (Instr.fieldAt 57 t_38 0) w fun t_39 w =>
  pv prog (oNil t_0) w fun t_40 w =>
  pvv prog (Instr.fieldAt 59 t_40 3) w fun t_41 w =>
  bindS (vN (Instr.loadAt 3 t_36)) fun m_43 => ldv prog (Instr.loadAt 3 t_36) w fun t_42 w =>
  bindS (vN (Instr.loadAt 3 t_39)) fun m_45 => ldv prog (Instr.loadAt 3 t_39) w fun t_44 w =>
  bindS (vN (Instr.loadAt 3 t_41)) fun m_47 => ldv prog (Instr.loadAt 3 t_41) w fun t_46 w =>
  pv prog (oBi .max #[3, 3, 3] 3 #[false, false, false] #[t_42, t_44, t_46]) w fun t_48 w =>
  pvv prog (binOp .leq 3 t_48 (.int .i64 1099511627776)) w fun t_49 w =>
  gate (some (t_49, true)) (fun K => K t_0 w) w fun t_50 w =>
  gate (some (t_49, true)) (fun K => pv prog (oNil t_50) w K) w fun t_51 w =>
  gate (some (t_49, true)) (fun K => pvv prog (Instr.fieldAt 59 t_51 1) w K) w fun t_52 w =>
  gate (some (t_49, true)) (fun K => pvv prog (Instr.fieldAt 57 t_52 0) w K) w fun t_53 w =>
  gate (some (t_49, true)) (fun K => K t_0 w) w fun t_54 w =>
  gate (some (t_49, true)) (fun K => pv prog (oNil t_54) w K) w fun t_55 w =>
  gate (some (t_49, true)) (fun K => pvv prog (Instr.fieldAt 59 t_55 0) w K) w fun t_56 w =>
  gate (some (t_49, true)) (fun K => pvv prog (Instr.fieldAt 57 t_56 0) w K) w fun t_57 w =>
  gate (some (t_49, true)) (fun K => K rows_p0 w) w fun t_58 w =>
  gate (some (t_49, true)) (fun K => pv prog (oBi .len #[51] 3 #[false] #[t_58]) w K) w fun t_59 w =>
  bindS (vN (Instr.loadAt 3 t_53)) fun m_61 => gate (some (t_49, true)) (fun K => ldv prog (Instr.loadAt 3 t_53) w K) w fun t_60 w =>
  bindS (vN (Instr.loadAt 3 t_57)) fun m_63 => gate (some (t_49, true)) (fun K => ldv prog (Instr.loadAt 3 t_57) w K) w fun t_62 w =>
  gate (some (t_49, true)) (fun K => pvv prog (binOp .add 3 t_62 t_59) w K) w fun t_64 w =>
  gate (some (t_49, true)) (fun K => pvv prog (binOp .sub 3 t_64 (.int .i64 4)) w K) w fun t_65 w =>
  gate (some (t_49, true)) (fun K => pvv prog (binOp .leq 3 t_60 t_65) w K) w fun t_66 w =>
  pv prog (oPick t_49 t_66 (.bool false)) w fun t_67 w =>
  dr w fun w =>
  pvv prog (Op.unary .not t_67) w fun t_68 w =>
  gate (some (t_68, false)) (fun K => K rows_p0 w) w fun t_69 w =>
  gate (some (t_68, false)) (fun K => pvv prog (Instr.indexAt 51 t_69 (.int .i64 1)) w K) w fun t_70 w =>
  gate (some (t_68, false)) (fun K => K t_0 w) w fun t_71 w =>
  gate (some (t_68, false)) (fun K => pv prog (oNil t_71) w K) w fun t_72 w =>
  gate (some (t_68, false)) (fun K => pvv prog (Instr.fieldAt 59 t_72 1) w K) w fun t_73 w =>
  gate (some (t_68, false)) (fun K => pvv prog (Instr.fieldAt 57 t_73 1) w K) w fun t_74 w =>
  bindS (vN (Instr.loadAt 71 t_70)) fun m_76 => gate (some (t_68, false)) (fun K => ldv prog (Instr.loadAt 71 t_70) w K) w fun t_75 w =>
  gate (some (t_68, false)) (fun K => Calls prog 41 #[t_75, (.string ⟨#[97]⟩), t_74] w (Ret fun s_211 w => K s_211 w)) w fun t_77 w =>
  gate (some (t_68, false)) (fun K => pvv prog (Op.unary .not t_77) w K) w fun t_78 w =>
  pv prog (oPick t_68 (.bool true) t_78) w fun t_79 w =>
  gate (some (t_79, false)) (fun K => K rows_p0 w) w fun t_80 w =>
  gate (some (t_79, false)) (fun K => pvv prog (Instr.indexAt 51 t_80 (.int .i64 2)) w K) w fun t_81 w =>
  gate (some (t_79, false)) (fun K => K t_0 w) w fun t_82 w =>
  gate (some (t_79, false)) (fun K => pv prog (oNil t_82) w K) w fun t_83 w =>
  gate (some (t_79, false)) (fun K => pvv prog (Instr.fieldAt 59 t_83 0) w K) w fun t_84 w =>
  gate (some (t_79, false)) (fun K => pvv prog (Instr.fieldAt 57 t_84 1) w K) w fun t_85 w =>
  bindS (vN (Instr.loadAt 71 t_81)) fun m_87 => gate (some (t_79, false)) (fun K => ldv prog (Instr.loadAt 71 t_81) w K) w fun t_86 w =>
  gate (some (t_79, false)) (fun K => Calls prog 41 #[t_86, (.string ⟨#[98]⟩), t_85] w (Ret fun s_210 w => stay prog (some (t_68, false)) m_76 t_75 w <| K s_210 w)) w fun t_88 w =>
  gate (some (t_79, false)) (fun K => pvv prog (Op.unary .not t_88) w K) w fun t_89 w =>
  pv prog (oPick t_79 (.bool true) t_89) w fun t_90 w =>
  gate (some (t_90, false)) (fun K => K rows_p0 w) w fun t_91 w =>
  gate (some (t_90, false)) (fun K => pvv prog (Instr.indexAt 51 t_91 (.int .i64 3)) w K) w fun t_92 w =>
  gate (some (t_90, false)) (fun K => K t_0 w) w fun t_93 w =>
  gate (some (t_90, false)) (fun K => pv prog (oNil t_93) w K) w fun t_94 w =>
  gate (some (t_90, false)) (fun K => pvv prog (Instr.fieldAt 59 t_94 2) w K) w fun t_95 w =>
  bindS (vN (Instr.loadAt 71 t_92)) fun m_97 => gate (some (t_90, false)) (fun K => ldv prog (Instr.loadAt 71 t_92) w K) w fun t_96 w =>
  gate (some (t_90, false)) (fun K => Calls prog 41 #[t_96, (.string ⟨#[104]⟩), t_95] w (Ret fun s_209 w => stay prog (some (t_79, false)) m_87 t_86 w <| stay prog (some (t_68, false)) m_76 t_75 w <| K s_209 w)) w fun t_98 w =>
  gate (some (t_90, false)) (fun K => pvv prog (Op.unary .not t_98) w K) w fun t_99 w =>
  pv prog (oPick t_90 (.bool true) t_99) w fun t_100 w =>
  cd t_100 (
    K (.tuple #[(.pointer none), (.int .i64 3)]) w) <|
  pvv prog (Instr.sliceAt 51 rows_p0 (some (.int .i64 4)) none none) w fun t_101 w =>
  pv prog (oBi .len #[51] 3 #[false] #[t_101]) w fun t_102 w =>
  lp (fun σ w again_105 => pop σ fun before_103 σ => pop σ fun t_104 σ => fin σ <|
    pvv prog (binOp .lss 3 t_104 t_102) w fun t_106 w =>
    cd t_106 (
      pvv prog (Instr.indexAt 51 t_101 t_104) w fun t_107 w =>
      ldv prog (Instr.loadAt 71 t_107) w fun t_108 w =>
      efv prog (Instr.alloc 71 true (.tuple #[])) w fun r_109 w =>
      efu prog (Instr.storeAt 71 r_109 t_108) w fun u_110 w =>
      pv prog (oNil t_0) w fun t_111 w =>
      pvv prog (Instr.fieldAt 59 t_111 0) w fun t_112 w =>
      pvv prog (Instr.fieldAt 57 t_112 0) w fun t_113 w =>
      ldv prog (Instr.loadAt 3 t_113) w fun t_114 w =>
      pvv prog (binOp .add 3 t_114 t_104) w fun t_115 w =>
      pvv prog (binOp .add 3 t_115 (.int .i64 1)) w fun t_116 w =>
      pvv prog (Instr.build 34 #[(0, t_116)]) w fun t_117 w =>
      efv prog (Instr.alloc 34 true (.tuple #[])) w fun x_118 w =>
      efu prog (Instr.storeAt 34 x_118 t_117) w fun u_119 w =>
      dr w fun w =>
      pvv prog (Instr.fieldAt 71 r_109 0) w fun t_120 w =>
      pvv prog (Instr.fieldAt 34 x_118 0) w fun t_121 w =>
      bindS (vN (Instr.loadAt 9 t_120)) fun m_123 => ldv prog (Instr.loadAt 9 t_120) w fun t_122 w =>
      bindS (vN (Instr.loadAt 3 t_121)) fun m_125 => ldv prog (Instr.loadAt 3 t_121) w fun t_124 w =>
      Calls prog 39 #[t_124] w (Ret fun t_126 w => stay prog none m_123 t_122 w <| 
      pvv prog (binOp .add 9 (.string ⟨#[110]⟩) t_126) w fun t_127 w =>
      pvv prog (oEq .neq 9 (.tmp 131) (.tmp 135) t_122 t_127) w fun t_128 w =>
      gate (some (t_128, false)) (fun K => pvv prog (Instr.fieldAt 71 r_109 1) w K) w fun t_129 w =>
      bindS (vN (Instr.loadAt 69 t_129)) fun m_131 => gate (some (t_128, false)) (fun K => ldv prog (Instr.loadAt 69 t_129) w K) w fun t_130 w =>
      gate (some (t_128, false)) (fun K => pv prog (oBi .len #[69] 3 #[false] #[t_130]) w K) w fun t_132 w =>
      gate (some (t_128, false)) (fun K => pvv prog (oEq .neq 3 (.tmp 140) (.const (.int .i64 3)) t_132 (.int .i64 3)) w K) w fun t_133 w =>
      pv prog (oPick t_128 (.bool true) t_133) w fun t_134 w =>
      gate (some (t_134, false)) (fun K => pvv prog (Instr.fieldAt 71 r_109 1) w K) w fun t_135 w =>
      gate (some (t_134, false)) (fun K => pvv prog (Instr.fieldAt 34 x_118 1) w K) w fun t_136 w =>
      bindS (vN (Instr.loadAt 69 t_135)) fun m_138 => gate (some (t_134, false)) (fun K => ldv prog (Instr.loadAt 69 t_135) w K) w fun t_137 w =>
      gate (some (t_134, false)) (fun K => pvv prog (Instr.sliceAt 69 t_137 none (some (.int .i64 1)) none) w K) w fun t_139 w =>
      gate (some (t_134, false)) (fun K => efv prog (Instr.buildSlice 88 1 #[(0, t_136)]) w fun s_207 w => stay prog (some (t_134, false)) m_138 t_137 w <| stay prog (some (t_128, false)) m_131 t_130 w <| stay prog none m_125 t_124 w <| stay prog none m_123 t_122 w <| K s_207 w) w fun t_140 w =>
      gate (some (t_134, false)) (fun K => Calls prog 40 #[t_139, t_140] w (Ret fun s_206 w => stay prog (some (t_134, false)) m_138 t_137 w <| stay prog (some (t_128, false)) m_131 t_130 w <| stay prog none m_125 t_124 w <| stay prog none m_123 t_122 w <| K s_206 w)) w fun t_141 w =>
      gate (some (t_134, false)) (fun K => pvv prog (Op.unary .not t_141) w K) w fun t_142 w =>
      pv prog (oPick t_134 (.bool true) t_142) w fun t_143 w =>
      cd t_143 (
        K (.tuple #[(.pointer none), (.int .i64 3)]) w) <|
      dr w fun w =>
      pvv prog (Instr.fieldAt 71 r_109 1) w fun t_144 w =>
      pvv prog (Instr.fieldAt 71 r_109 1) w fun t_145 w =>
      bindS (vN (Instr.loadAt 69 t_144)) fun m_147 => ldv prog (Instr.loadAt 69 t_144) w fun t_146 w =>
      pvv prog (Instr.indexAt 69 t_146 (.int .i64 1)) w fun t_148 w =>
      bindS (vN (Instr.loadAt 9 t_148)) fun m_150 => ldv prog (Instr.loadAt 9 t_148) w fun t_149 w =>
      bindS (vN (Instr.loadAt 69 t_145)) fun m_152 => ldv prog (Instr.loadAt 69 t_145) w fun t_151 w =>
      pvv prog (Instr.indexAt 69 t_151 (.int .i64 2)) w fun t_153 w =>
      bindS (vN (Instr.loadAt 9 t_153)) fun m_155 => ldv prog (Instr.loadAt 9 t_153) w fun t_154 w =>
      pvv prog (Instr.fieldAt 34 x_118 2) w fun t_156 w =>
      efu prog (Instr.storeAt 9 t_156 t_149) w fun u_157 w => stay prog none m_152 t_151 w <| 
      pvv prog (Instr.fieldAt 34 x_118 3) w fun t_158 w =>
      efu prog (Instr.storeAt 9 t_158 t_154) w fun u_159 w =>
      dr w fun w =>
      pvv prog (Instr.fieldAt 34 x_118 2) w fun t_160 w =>
      bindS (vN (Instr.loadAt 9 t_160)) fun m_162 => ldv prog (Instr.loadAt 9 t_160) w fun t_161 w =>
      pv prog (oBi .len #[9] 3 #[false] #[t_161]) w fun t_163 w =>
      pvv prog (binOp .gtr 3 t_163 (.int .i64 12)) w fun t_164 w =>
      gate (some (t_164, false)) (fun K => pvv prog (Instr.fieldAt 34 x_118 3) w K) w fun t_165 w =>
      bindS (vN (Instr.loadAt 9 t_165)) fun m_167 => gate (some (t_164, false)) (fun K => ldv prog (Instr.loadAt 9 t_165) w K) w fun t_166 w =>
      gate (some (t_164, false)) (fun K => pv prog (oBi .len #[9] 3 #[false] #[t_166]) w K) w fun t_168 w =>
      gate (some (t_164, false)) (fun K => pvv prog (binOp .gtr 3 t_168 (.int .i64 30)) w K) w fun t_169 w =>
      pv prog (oPick t_164 (.bool true) t_169) w fun t_170 w =>
      gate (some (t_170, false)) (fun K => pvv prog (Instr.fieldAt 34 x_118 1) w K) w fun t_171 w =>
      gate (some (t_170, false)) (fun K => K before_103 w) w fun t_172 w =>
      bindS (vN (Instr.loadAt 3 t_171)) fun m_174 => gate (some (t_170, false)) (fun K => ldv prog (Instr.loadAt 3 t_171) w K) w fun t_173 w =>
      gate (some (t_170, false)) (fun K => pvv prog (binOp .lss 3 t_173 t_172) w K) w fun t_175 w =>
      pv prog (oPick t_170 (.bool true) t_175) w fun t_176 w =>
      gate (some (t_176, false)) (fun K => pvv prog (Instr.fieldAt 34 x_118 1) w K) w fun t_177 w =>
      gate (some (t_176, false)) (fun K => K t_0 w) w fun t_178 w =>
      gate (some (t_176, false)) (fun K => pv prog (oNil t_178) w K) w fun t_179 w =>
      gate (some (t_176, false)) (fun K => pvv prog (Instr.fieldAt 59 t_179 3) w K) w fun t_180 w =>
      bindS (vN (Instr.loadAt 3 t_177)) fun m_182 => gate (some (t_176, false)) (fun K => ldv prog (Instr.loadAt 3 t_177) w K) w fun t_181 w =>
      bindS (vN (Instr.loadAt 3 t_180)) fun m_184 => gate (some (t_176, false)) (fun K => ldv prog (Instr.loadAt 3 t_180) w K) w fun t_183 w =>
      gate (some (t_176, false)) (fun K => pvv prog (binOp .gtr 3 t_181 t_183) w K) w fun t_185 w =>
      pv prog (oPick t_176 (.bool true) t_185) w fun t_186 w =>
      cd t_186 (
        K (.tuple #[(.pointer none), (.int .i64 3)]) w) <|
      pvv prog (Instr.fieldAt 34 x_118 1) w fun t_187 w =>
      ldv prog (Instr.loadAt 3 t_187) w fun t_188 w =>
      dr w fun w =>
      pv prog (oNil t_0) w fun t_189 w =>
      pvv prog (Instr.fieldAt 59 t_189 4) w fun t_190 w =>
      bindS (vN (Instr.loadAt 31 t_190)) fun m_192 => ldv prog (Instr.loadAt 31 t_190) w fun t_191 w =>
      bindS (vN (Instr.loadAt 34 x_118)) fun m_194 => ldv prog (Instr.loadAt 34 x_118) w fun t_193 w =>
      efv prog (Instr.buildSlice 31 1 #[(0, t_193)]) w fun t_195 w => stay prog none m_192 t_191 w <| 
      ef prog (oBi .append #[31, 31] 31 #[false, false] #[t_191, t_195]) w fun t_196 w => stay prog none m_194 t_193 w <| 
      pv prog (oNil t_0) w fun t_197 w =>
      pvv prog (Instr.fieldAt 59 t_197 4) w fun t_198 w =>
      efu prog (Instr.storeAt 31 t_198 t_196) w fun u_199 w =>
      pvv prog (binOp .add 3 t_104 (.int .i64 1)) w fun t_200 w =>
      again_105 [t_188, t_200] w)) <|
    K (.tuple #[t_0, (.int .i64 0)]) w) [(.int .i64 0), (.int .i64 0)] w)
theorem B25_eq (rows_p0 : Value) (w : World) (K : Value → World → Prop) : denFn prog Tryd.f25 T25 [rows_p0] w K = B25 rows_p0 w K := by kernel_rfl
theorem c25 {rows_p0 : Value} {w : World} {K : Value → World → Prop} (h : B25 rows_p0 w K) : Calls prog 25 #[rows_p0] w (Ret K) :=
  denFn_calls Tryd.func25 T25_ok (Eq.mpr (B25_eq rows_p0 w K) h)

-- 24 (*holdfast/audit.Chain).Rows
def T24 : Ann := (.seq .none (.seq (.seq .none (.seq (.seq .none .none) .none)) (.seq (.draw [.op 0 .pure, .op 1 .pure, .op 2 .pure, .op 3 .pure, .op 6 .pure, .op 7 .pure, .op 8 .pure, .op 9 .pure, .op 12 .pure, .op 13 .pure, .op 14 .pure, .op 19 .pure, .op 20 .pure, .op 21 .pure, .op 22 .pure, .op 23 .pure, .op 27 .pure, .op 28 .pure, .op 29 .pure, .op 30 .pure, .op 31 .pure, .op 35 .pure, .op 36 .pure, .op 37 .pure, .op 38 .pure, .op 4 .load, .op 10 .load, .op 15 .load, .par [⟨5, .eff, (some 13), []⟩, ⟨24, .eff, (some 32), []⟩, ⟨32, .eff, (some 40), []⟩, ⟨39, .eff, (some 47), []⟩, ⟨11, .eff, (some 19), []⟩, ⟨16, .eff, (some 24), []⟩, ⟨17, .eff, (some 25), [(0, some 13), (4, some 19), (5, some 24)]⟩, ⟨18, .pure, (some 26), [(6, some 25)]⟩, ⟨25, .eff, (some 33), [(1, some 32)]⟩, ⟨26, .pure, (some 34), [(8, some 33)]⟩, ⟨33, .eff, (some 41), [(2, some 40)]⟩, ⟨34, .pure, (some 42), [(10, some 41)]⟩, ⟨40, .eff, (some 48), [(3, some 47)]⟩, ⟨41, .pure, (some 49), [(12, some 48)]⟩], .op 42 .eff, .op 43 .pure]) (.seq (.seq .none (.block (.loop 151115655394234608910376 [3, 56] (.seq .none (.seq (.seq .none .none) (.seq (.block (.seq .none (.draw [.op 0 .pure, .op 1 .pure, .op 5 .pure, .op 8 .pure, .op 10 .pure, .op 2 .load, .op 6 .load, .op 9 .load, .op 11 .load, .op 3 .eff, .op 4 .pure, .op 7 .eff, .op 12 .eff, .op 13 .pure, .op 14 .eff, .op 15 .eff, .op 16 .pure]))) .none)))))) (.seq .none .none)))))
theorem T24_ok : chkFn prog Tryd.f24 T24 = true := by kernel_rfl
def B24 (c_p0 : Value) (w : World) (K : Value → World → Prop) : Prop :=
  pvv prog (oEq .eql 23 (.tmp 6) (.const (.pointer none)) c_p0 (.pointer none)) w fun t_0 w =>
  cd t_0 (
    K (.slice none 0 0) w) <|
  dr w fun w =>
  pv prog (oNil c_p0) w fun t_1 w =>
  pvv prog (Instr.fieldAt 59 t_1 0) w fun t_2 w =>
  pvv prog (Instr.fieldAt 57 t_2 0) w fun t_3 w =>
  pv prog (oNil c_p0) w fun t_4 w =>
  pvv prog (Instr.fieldAt 59 t_4 1) w fun t_5 w =>
  pvv prog (Instr.fieldAt 57 t_5 0) w fun t_6 w =>
  pv prog (oNil c_p0) w fun t_7 w =>
  pvv prog (Instr.fieldAt 59 t_7 3) w fun t_8 w =>
  pv prog (oNil c_p0) w fun t_9 w =>
  pvv prog (Instr.fieldAt 59 t_9 1) w fun t_10 w =>
  pvv prog (Instr.fieldAt 57 t_10 1) w fun t_11 w =>
  pvv prog (Instr.sliceAt 36 t_11 none none none) w fun t_12 w =>
  pv prog (oNil c_p0) w fun t_13 w =>
  pvv prog (Instr.fieldAt 59 t_13 0) w fun t_14 w =>
  pvv prog (Instr.fieldAt 57 t_14 1) w fun t_15 w =>
  pvv prog (Instr.sliceAt 36 t_15 none none none) w fun t_16 w =>
  pv prog (oNil c_p0) w fun t_17 w =>
  pvv prog (Instr.fieldAt 59 t_17 2) w fun t_18 w =>
  pvv prog (Instr.sliceAt 36 t_18 none none none) w fun t_19 w =>
  bindS (vN (Instr.loadAt 3 t_3)) fun m_21 => ldv prog (Instr.loadAt 3 t_3) w fun t_20 w =>
  bindS (vN (Instr.loadAt 3 t_6)) fun m_23 => ldv prog (Instr.loadAt 3 t_6) w fun t_22 w =>
  bindS (vN (Instr.loadAt 3 t_8)) fun m_25 => ldv prog (Instr.loadAt 3 t_8) w fun t_24 w =>
  par 14 w fun J_26 =>
    (∀ (σ : List (Option Value)) (w : World), J_26 σ w → un σ 0 (Calls prog 39 #[t_20] w (Ret fun v_27 w => stay prog none m_25 t_24 w <| stay prog none m_23 t_22 w <| J_26 (σ.set 0 (some v_27)) w))) ∧
    (∀ (σ : List (Option Value)) (w : World), J_26 σ w → un σ 1 (efv prog (convert 72 9 t_12) w fun v_28 w => stay prog none m_25 t_24 w <| stay prog none m_23 t_22 w <| stay prog none m_21 t_20 w <| J_26 (σ.set 1 (some v_28)) w)) ∧
    (∀ (σ : List (Option Value)) (w : World), J_26 σ w → un σ 2 (efv prog (convert 72 9 t_16) w fun v_29 w => stay prog none m_25 t_24 w <| stay prog none m_23 t_22 w <| stay prog none m_21 t_20 w <| J_26 (σ.set 2 (some v_29)) w)) ∧
    (∀ (σ : List (Option Value)) (w : World), J_26 σ w → un σ 3 (efv prog (convert 72 9 t_19) w fun v_30 w => stay prog none m_25 t_24 w <| stay prog none m_23 t_22 w <| stay prog none m_21 t_20 w <| J_26 (σ.set 3 (some v_30)) w)) ∧
    (∀ (σ : List (Option Value)) (w : World), J_26 σ w → un σ 4 (Calls prog 39 #[t_22] w (Ret fun v_31 w => stay prog none m_25 t_24 w <| stay prog none m_21 t_20 w <| J_26 (σ.set 4 (some v_31)) w))) ∧
    (∀ (σ : List (Option Value)) (w : World), J_26 σ w → un σ 5 (Calls prog 39 #[t_24] w (Ret fun v_32 w => stay prog none m_23 t_22 w <| stay prog none m_21 t_20 w <| J_26 (σ.set 5 (some v_32)) w))) ∧
    (∀ (σ : List (Option Value)) (w : World), J_26 σ w → un σ 6 (is σ 0 fun t_33 => is σ 4 fun t_34 => is σ 5 fun t_35 => efv prog (Instr.buildSlice 69 3 #[(0, t_33), (1, t_34), (2, t_35)]) w fun v_36 w => stay prog none m_25 t_24 w <| stay prog none m_23 t_22 w <| stay prog none m_21 t_20 w <| J_26 (σ.set 6 (some v_36)) w)) ∧
    (∀ (σ : List (Option Value)) (w : World), J_26 σ w → un σ 7 (is σ 6 fun t_37 => pvv prog (Instr.build 71 #[(0, (.string ⟨#[35]⟩)), (1, t_37)]) w fun v_38 w => J_26 (σ.set 7 (some v_38)) w)) ∧
    (∀ (σ : List (Option Value)) (w : World), J_26 σ w → un σ 8 (is σ 1 fun t_39 => efv prog (Instr.buildSlice 69 1 #[(0, t_39)]) w fun v_40 w => stay prog none m_25 t_24 w <| stay prog none m_23 t_22 w <| stay prog none m_21 t_20 w <| J_26 (σ.set 8 (some v_40)) w)) ∧
    (∀ (σ : List (Option Value)) (w : World), J_26 σ w → un σ 9 (is σ 8 fun t_41 => pvv prog (Instr.build 71 #[(0, (.string ⟨#[97]⟩)), (1, t_41)]) w fun v_42 w => J_26 (σ.set 9 (some v_42)) w)) ∧
    (∀ (σ : List (Option Value)) (w : World), J_26 σ w → un σ 10 (is σ 2 fun t_43 => efv prog (Instr.buildSlice 69 1 #[(0, t_43)]) w fun v_44 w => stay prog none m_25 t_24 w <| stay prog none m_23 t_22 w <| stay prog none m_21 t_20 w <| J_26 (σ.set 10 (some v_44)) w)) ∧
    (∀ (σ : List (Option Value)) (w : World), J_26 σ w → un σ 11 (is σ 10 fun t_45 => pvv prog (Instr.build 71 #[(0, (.string ⟨#[98]⟩)), (1, t_45)]) w fun v_46 w => J_26 (σ.set 11 (some v_46)) w)) ∧
    (∀ (σ : List (Option Value)) (w : World), J_26 σ w → un σ 12 (is σ 3 fun t_47 => efv prog (Instr.buildSlice 69 1 #[(0, t_47)]) w fun v_48 w => stay prog none m_25 t_24 w <| stay prog none m_23 t_22 w <| stay prog none m_21 t_20 w <| J_26 (σ.set 12 (some v_48)) w)) ∧
    (∀ (σ : List (Option Value)) (w : World), J_26 σ w → un σ 13 (is σ 12 fun t_49 => pvv prog (Instr.build 71 #[(0, (.string ⟨#[104]⟩)), (1, t_49)]) w fun v_50 w => J_26 (σ.set 13 (some v_50)) w)) ∧
    ∀ (σ : List (Option Value)) (w : World), J_26 σ w → is σ 0 fun t_51 => is σ 1 fun t_52 => is σ 2 fun t_53 => is σ 3 fun t_54 => is σ 4 fun t_55 => is σ 5 fun t_56 => is σ 6 fun t_57 => is σ 7 fun t_58 => is σ 8 fun t_59 => is σ 9 fun t_60 => is σ 10 fun t_61 => is σ 11 fun t_62 => is σ 12 fun t_63 => is σ 13 fun t_64 => 
    efv prog (Instr.buildSlice 51 4 #[(0, t_58), (1, t_60), (2, t_62), (3, t_64)]) w fun t_65 w => stay prog none m_25 t_24 w <| stay prog none m_23 t_22 w <| stay prog none m_21 t_20 w <| 
    pv prog (oNil c_p0) w fun t_66 w =>
    pvv prog (Instr.fieldAt 59 t_66 4) w fun t_67 w =>
    ldv prog (Instr.loadAt 31 t_67) w fun t_68 w =>
    pv prog (oBi .len #[31] 3 #[false] #[t_68]) w fun t_69 w =>
    lp (fun σ w again_72 => pop σ fun out_70 σ => pop σ fun t_71 σ => fin σ <|
      pvv prog (binOp .lss 3 t_71 t_69) w fun t_73 w =>
      cd t_73 (
        pvv prog (Instr.indexAt 31 t_68 t_71) w fun t_74 w =>
        ldv prog (Instr.loadAt 34 t_74) w fun t_75 w =>
        efv prog (Instr.alloc 34 true (.tuple #[])) w fun x_76 w =>
        efu prog (Instr.storeAt 34 x_76 t_75) w fun u_77 w =>
        dr w fun w =>
        pvv prog (Instr.fieldAt 34 x_76 0) w fun t_78 w =>
        pvv prog (Instr.fieldAt 34 x_76 1) w fun t_79 w =>
        pvv prog (Instr.fieldAt 34 x_76 2) w fun t_80 w =>
        pvv prog (Instr.fieldAt 34 x_76 3) w fun t_81 w =>
        bindS (vN (Instr.loadAt 3 t_78)) fun m_83 => ldv prog (Instr.loadAt 3 t_78) w fun t_82 w =>
        bindS (vN (Instr.loadAt 3 t_79)) fun m_85 => ldv prog (Instr.loadAt 3 t_79) w fun t_84 w =>
        bindS (vN (Instr.loadAt 9 t_80)) fun m_87 => ldv prog (Instr.loadAt 9 t_80) w fun t_86 w =>
        bindS (vN (Instr.loadAt 9 t_81)) fun m_89 => ldv prog (Instr.loadAt 9 t_81) w fun t_88 w =>
        Calls prog 39 #[t_82] w (Ret fun t_90 w => stay prog none m_89 t_88 w <| stay prog none m_87 t_86 w <| stay prog none m_85 t_84 w <| 
        pvv prog (binOp .add 9 (.string ⟨#[110]⟩) t_90) w fun t_91 w =>
        Calls prog 39 #[t_84] w (Ret fun t_92 w => stay prog none m_89 t_88 w <| stay prog none m_87 t_86 w <| stay prog none m_83 t_82 w <| 
        efv prog (Instr.buildSlice 69 3 #[(0, t_92), (1, t_86), (2, t_88)]) w fun t_93 w => stay prog none m_85 t_84 w <| stay prog none m_83 t_82 w <| 
        pvv prog (Instr.build 71 #[(0, t_91), (1, t_93)]) w fun t_94 w =>
        efv prog (Instr.buildSlice 51 1 #[(0, t_94)]) w fun t_95 w => stay prog none m_89 t_88 w <| stay prog none m_87 t_86 w <| stay prog none m_85 t_84 w <| stay prog none m_83 t_82 w <| 
        ef prog (oBi .append #[51, 51] 51 #[false, false] #[out_70, t_95]) w fun t_96 w => stay prog none m_89 t_88 w <| stay prog none m_87 t_86 w <| stay prog none m_85 t_84 w <| stay prog none m_83 t_82 w <| 
        pvv prog (binOp .add 3 t_71 (.int .i64 1)) w fun t_97 w =>
        again_72 [t_96, t_97] w))) <|
      K out_70 w) [t_65, (.int .i64 0)] w
theorem B24_eq (c_p0 : Value) (w : World) (K : Value → World → Prop) : denFn prog Tryd.f24 T24 [c_p0] w K = B24 c_p0 w K := by kernel_rfl
theorem c24 {c_p0 : Value} {w : World} {K : Value → World → Prop} (h : B24 c_p0 w K) : Calls prog 24 #[c_p0] w (Ret K) :=
  denFn_calls Tryd.func24 T24_ok (Eq.mpr (B24_eq c_p0 w K) h)

-- 5 holdfast/holdfastlaw14.AuditPrunes
def T5 : Ann := (.seq .none (.seq .none (.seq (.seq .none (.seq (.seq .none .none) .none)) (.seq (.seq .none (.block (.loop 274875809920 [7] (.seq (.seq .none (.seq .none .none)) (.seq (.block .none) .none))))) (.seq .none (.seq .none (.seq .none (.seq .none (.meet 575334852396584960 [12] (.seq .none (.seq .none .none)) (.seq .none (.seq .none (.seq (.seq (.draw [.op 0 .pure, .op 1 .pure, .op 2 .pure, .op 3 .pure, .op 4 .pure, .op 5 .pure, .op 6 .pure, .op 7 .pure, .op 8 .pure, .op 9 .pure, .op 10 .pure, .op 11 .pure, .op 12 .pure, .op 13 .pure, .op 14 .pure, .op 15 .pure, .op 16 .pure, .op 17 .pure, .op 19 .load, .op 18 .eff, .op 20 .pure, .op 21 .pure, .op 22 .pure, .op 23 .pure, .op 25 .pure, .op 24 .eff, .op 26 .pure, .op 27 .pure, .op 28 .pure, .op 29 .pure, .op 30 .eff, .op 31 .pure, .op 32 .pure]) (.seq (.seq .none .none) .none)) (.seq (.seq .none (.block (.loop 664608927290057023534297543327416336 [16] (.seq (.seq .none (.seq .none .none)) (.seq (.block (.seq (.draw [.op 0 .pure, .op 1 .pure, .op 2 .pure, .op 4 .pure, .op 5 .pure, .op 6 .pure, .op 7 .pure, .op 8 .pure, .op 3 .load, .op 9 .load, .op 10 .pure]) (.seq (.seq .none .none) .none))) .none))))) (.seq .none .none))))))))))))))
theorem T5_ok : chkFn prog Tryd.f5 T5 = true := by kernel_rfl
def B5 (l_p0 n_p1 : Value) (w : World) (K : Value → World → Prop) : Prop :=
  Calls prog 9 #[] w (Ret fun t_0 w =>
  Calls prog 10 #[] w (Ret fun t_1 w =>
  Calls prog 11 #[] w (Ret fun t_2 w =>
  pvv prog (Op.unary .not t_2) w fun t_3 w =>
  cd t_3 (
    K (.bool false) w) <|
  lp (fun σ w again_5 => pop σ fun i_4 σ => fin σ <|
    pv prog (oBi .len #[22] 3 #[false] #[l_p0]) w fun t_6 w =>
    pvv prog (binOp .lss 3 i_4 t_6) w fun t_7 w =>
    gate (some (t_7, true)) (fun K => K i_4 w) w fun t_8 w =>
    gate (some (t_7, true)) (fun K => pvv prog (binOp .lss 3 t_8 (.int .i64 60)) w K) w fun t_9 w =>
    pv prog (oPick t_7 t_9 (.bool false)) w fun t_10 w =>
    cd t_10 (
      pvv prog (Instr.indexAt 22 l_p0 i_4) w fun t_11 w =>
      ldv prog (Instr.loadAt 30 t_11) w fun t_12 w =>
      Calls prog 12 #[t_0, t_1, t_12] w (Ret fun t_13 w =>
      pvv prog (binOp .add 3 i_4 (.int .i64 1)) w fun t_14 w =>
      again_5 [t_14] w)) <|
    Calls prog 17 #[t_0] w (Ret fun t_15 w =>
    Calls prog 13 #[t_0] w (Ret fun t_16 w =>
    Calls prog 19 #[t_0] w (Ret fun t_17 w =>
    Calls prog 15 #[t_0] w (Ret fun t_18 w =>
    efv prog (Instr.alloc 36 true (.tuple #[])) w fun head_19 w =>
    efu prog (Instr.storeAt 36 head_19 t_17) w fun u_20 w =>
    pv prog (oBi .len #[31] 3 #[false] #[t_16]) w fun t_21 w =>
    pvv prog (binOp .sub 3 t_18 t_21) w fun t_22 w =>
    jn (fun σ w => pop σ fun k_23 σ => fin σ <|
      pvv prog (binOp .add 3 t_22 k_23) w fun t_24 w =>
      Calls prog 18 #[t_0, t_24] w (Ret fun t_25 w =>
      pvv prog (Instr.extract t_25 0) w fun t_26 w =>
      pvv prog (Instr.extract t_25 1) w fun t_27 w =>
      Calls prog 13 #[t_0] w (Ret fun t_28 w =>
      dr w fun w =>
      pvv prog (oEq .neq 41 (.tmp 69) (.const (.int .i64 0)) t_27 (.int .i64 0)) w fun t_29 w =>
      gate (some (t_29, false)) (fun K => K t_26 w) w fun t_30 w =>
      gate (some (t_29, false)) (fun K => K k_23 w) w fun t_31 w =>
      gate (some (t_29, false)) (fun K => pvv prog (oEq .neq 3 (.tmp 72) (.tmp 73) t_30 t_31) w K) w fun t_32 w =>
      pv prog (oPick t_29 (.bool true) t_32) w fun t_33 w =>
      gate (some (t_33, false)) (fun K => K t_28 w) w fun t_34 w =>
      gate (some (t_33, false)) (fun K => pv prog (oBi .len #[31] 3 #[false] #[t_34]) w K) w fun t_35 w =>
      gate (some (t_33, false)) (fun K => K t_16 w) w fun t_36 w =>
      gate (some (t_33, false)) (fun K => pv prog (oBi .len #[31] 3 #[false] #[t_36]) w K) w fun t_37 w =>
      gate (some (t_33, false)) (fun K => K k_23 w) w fun t_38 w =>
      gate (some (t_33, false)) (fun K => pvv prog (binOp .sub 3 t_37 t_38) w K) w fun t_39 w =>
      gate (some (t_33, false)) (fun K => pvv prog (oEq .neq 3 (.tmp 78) (.tmp 82) t_35 t_39) w K) w fun t_40 w =>
      pv prog (oPick t_33 (.bool true) t_40) w fun t_41 w =>
      gate (some (t_41, false)) (fun K => K t_0 w) w fun t_42 w =>
      bindS (vN (Instr.loadAt 36 head_19)) fun m_44 => gate (some (t_41, false)) (fun K => ldv prog (Instr.loadAt 36 head_19) w K) w fun t_43 w =>
      gate (some (t_41, false)) (fun K => Calls prog 19 #[t_42] w (Ret fun s_72 w => stay prog (some (t_41, false)) m_44 t_43 w <| K s_72 w)) w fun t_45 w =>
      gate (some (t_41, false)) (fun K => pvv prog (oEq .neq 36 (.tmp 87) (.tmp 88) t_45 t_43) w K) w fun t_46 w =>
      pv prog (oPick t_41 (.bool true) t_46) w fun t_47 w =>
      gate (some (t_47, false)) (fun K => K t_0 w) w fun t_48 w =>
      gate (some (t_47, false)) (fun K => K t_18 w) w fun t_49 w =>
      gate (some (t_47, false)) (fun K => Calls prog 15 #[t_48] w (Ret fun s_71 w => stay prog (some (t_41, false)) m_44 t_43 w <| K s_71 w)) w fun t_50 w =>
      gate (some (t_47, false)) (fun K => pvv prog (oEq .neq 3 (.tmp 93) (.tmp 94) t_50 t_49) w K) w fun t_51 w =>
      pv prog (oPick t_47 (.bool true) t_51) w fun t_52 w =>
      gate (some (t_52, false)) (fun K => K t_0 w) w fun t_53 w =>
      gate (some (t_52, false)) (fun K => Calls prog 20 #[t_53] w (Ret fun s_70 w => stay prog (some (t_41, false)) m_44 t_43 w <| K s_70 w)) w fun t_54 w =>
      gate (some (t_52, false)) (fun K => pvv prog (oEq .neq 41 (.tmp 99) (.const (.int .i64 0)) t_54 (.int .i64 0)) w K) w fun t_55 w =>
      pv prog (oPick t_52 (.bool true) t_55) w fun t_56 w =>
      cd t_56 (
        K (.bool false) w) <|
      lp (fun σ w again_58 => pop σ fun i_57 σ => fin σ <|
        pv prog (oBi .len #[31] 3 #[false] #[t_28]) w fun t_59 w =>
        pvv prog (binOp .lss 3 i_57 t_59) w fun t_60 w =>
        cd t_60 (
          dr w fun w =>
          pvv prog (Instr.indexAt 31 t_28 i_57) w fun t_61 w =>
          pvv prog (binOp .add 3 k_23 i_57) w fun t_62 w =>
          pvv prog (Instr.indexAt 31 t_16 t_62) w fun t_63 w =>
          bindS (vN (Instr.loadAt 34 t_61)) fun m_65 => ldv prog (Instr.loadAt 34 t_61) w fun t_64 w =>
          bindS (vN (Instr.loadAt 34 t_63)) fun m_67 => ldv prog (Instr.loadAt 34 t_63) w fun t_66 w =>
          pvv prog (oEq .neq 34 (.tmp 111) (.tmp 117) t_64 t_66) w fun t_68 w =>
          cd t_68 (
            K (.bool false) w) <|
          pvv prog (binOp .add 3 i_57 (.int .i64 1)) w fun t_69 w =>
          again_58 [t_69] w) <|
        K (.bool true) w) [(.int .i64 0)] w))) fun k_73 =>
    pv prog (oBi .len #[31] 3 #[false] #[t_16]) w fun t_74 w =>
    pvv prog (binOp .gtr 3 t_74 (.int .i64 0)) w fun t_75 w =>
    cd t_75 (
      pvv prog (convert 5 3 n_p1) w fun t_76 w =>
      pv prog (oBi .len #[31] 3 #[false] #[t_16]) w fun t_77 w =>
      pvv prog (binOp .add 3 t_77 (.int .i64 1)) w fun t_78 w =>
      pvv prog (binOp .rem 3 t_76 t_78) w fun t_79 w =>
      k_73 [t_79] w) <|
    k_73 [(.int .i64 0)] w))))) [(.int .i64 0)] w)))
theorem B5_eq (l_p0 n_p1 : Value) (w : World) (K : Value → World → Prop) : denFn prog Tryd.f5 T5 [l_p0, n_p1] w K = B5 l_p0 n_p1 w K := by kernel_rfl
theorem c5 {l_p0 n_p1 : Value} {w : World} {K : Value → World → Prop} (h : B5 l_p0 n_p1 w K) : Calls prog 5 #[l_p0, n_p1] w (Ret K) :=
  denFn_calls Tryd.func5 T5_ok (Eq.mpr (B5_eq l_p0 n_p1 w K) h)

-- 103 unicode/utf8.decodeRuneInStringSlow
def T103 : Ann := (.seq .none (.seq .none (.seq (.seq .none (.seq (.seq .none .none) .none)) (.seq .none (.seq .none (.seq (.seq .none (.seq (.seq .none (.seq .none .none)) .none)) (.seq .none (.seq .none (.seq (.seq .none (.seq (.seq .none .none) .none)) (.seq .none (.seq (.seq .none (.seq (.seq .none .none) .none)) (.seq (.seq .none (.seq (.seq .none .none) .none)) (.seq .none (.seq (.seq .none (.seq (.seq .none .none) .none)) (.seq (.seq .none (.seq (.seq .none .none) .none)) (.seq .none (.seq (.seq .none (.seq (.seq .none .none) .none)) (.seq .none .none))))))))))))))))))
theorem T103_ok : chkFn prog Tryd.f103 T103 = true := by kernel_rfl
def B103 (s_p0 : Value) (w : World) (K : Value → World → Prop) : Prop :=
  pv prog (oBi .len #[9] 3 #[false] #[s_p0]) w fun t_0 w =>
  pvv prog (binOp .lss 3 t_0 (.int .i64 1)) w fun t_1 w =>
  cd t_1 (
    K (.tuple #[(.int .i32 65533), (.int .i64 0)]) w) <|
  pvv prog (Instr.index 9 s_p0 (.int .i64 0)) w fun t_2 w =>
  pvv prog (Instr.indexAt 149 (.pointer (some ⟨3, 0, none⟩)) t_2) w fun t_3 w =>
  ldv prog (Instr.loadAt 5 t_3) w fun t_4 w =>
  pvv prog (binOp .geq 5 t_4 (.int .u8 240)) w fun t_5 w =>
  cd t_5 (
    pvv prog (convert 5 21 t_4) w fun t_6 w =>
    pvv prog (binOp .shl 21 t_6 (.int .u64 31)) w fun t_7 w =>
    pvv prog (binOp .shr 21 t_7 (.int .u64 31)) w fun t_8 w =>
    pvv prog (Instr.index 9 s_p0 (.int .i64 0)) w fun t_9 w =>
    pvv prog (convert 5 21 t_9) w fun t_10 w =>
    pvv prog (binOp .andNot 21 t_10 t_8) w fun t_11 w =>
    pvv prog (binOp .and 21 (.int .i32 65533) t_8) w fun t_12 w =>
    pvv prog (binOp .or 21 t_11 t_12) w fun t_13 w =>
    K (.tuple #[t_13, (.int .i64 1)]) w) <|
  pvv prog (binOp .and 5 t_4 (.int .u8 7)) w fun t_14 w =>
  pvv prog (convert 5 3 t_14) w fun t_15 w =>
  pvv prog (binOp .shr 5 t_4 (.int .u64 4)) w fun t_16 w =>
  pvv prog (Instr.indexAt 152 (.pointer (some ⟨4, 0, none⟩)) t_16) w fun t_17 w =>
  ldv prog (Instr.loadAt 151 t_17) w fun t_18 w =>
  efv prog (Instr.alloc 151 true (.tuple #[])) w fun accept_19 w =>
  efu prog (Instr.storeAt 151 accept_19 t_18) w fun u_20 w =>
  pvv prog (binOp .lss 3 t_0 t_15) w fun t_21 w =>
  cd t_21 (
    K (.tuple #[(.int .i32 65533), (.int .i64 1)]) w) <|
  pvv prog (Instr.index 9 s_p0 (.int .i64 1)) w fun t_22 w =>
  pvv prog (Instr.fieldAt 151 accept_19 0) w fun t_23 w =>
  ldv prog (Instr.loadAt 5 t_23) w fun t_24 w =>
  pvv prog (binOp .lss 5 t_22 t_24) w fun t_25 w =>
  gate (some (t_25, false)) (fun K => pvv prog (Instr.fieldAt 151 accept_19 1) w K) w fun t_26 w =>
  gate (some (t_25, false)) (fun K => ldv prog (Instr.loadAt 5 t_26) w K) w fun t_27 w =>
  gate (some (t_25, false)) (fun K => K t_22 w) w fun t_28 w =>
  gate (some (t_25, false)) (fun K => pvv prog (binOp .lss 5 t_27 t_28) w K) w fun t_29 w =>
  pv prog (oPick t_25 (.bool true) t_29) w fun t_30 w =>
  cd t_30 (
    K (.tuple #[(.int .i32 65533), (.int .i64 1)]) w) <|
  pvv prog (binOp .leq 3 t_15 (.int .i64 2)) w fun t_31 w =>
  cd t_31 (
    pvv prog (binOp .and 5 t_2 (.int .u8 31)) w fun t_32 w =>
    pvv prog (convert 5 21 t_32) w fun t_33 w =>
    pvv prog (binOp .shl 21 t_33 (.int .u64 6)) w fun t_34 w =>
    pvv prog (binOp .and 5 t_22 (.int .u8 63)) w fun t_35 w =>
    pvv prog (convert 5 21 t_35) w fun t_36 w =>
    pvv prog (binOp .or 21 t_34 t_36) w fun t_37 w =>
    K (.tuple #[t_37, (.int .i64 2)]) w) <|
  pvv prog (Instr.index 9 s_p0 (.int .i64 2)) w fun t_38 w =>
  pvv prog (binOp .lss 5 t_38 (.int .u8 128)) w fun t_39 w =>
  gate (some (t_39, false)) (fun K => K t_38 w) w fun t_40 w =>
  gate (some (t_39, false)) (fun K => pvv prog (binOp .lss 5 (.int .u8 191) t_40) w K) w fun t_41 w =>
  pv prog (oPick t_39 (.bool true) t_41) w fun t_42 w =>
  cd t_42 (
    K (.tuple #[(.int .i32 65533), (.int .i64 1)]) w) <|
  pvv prog (binOp .leq 3 t_15 (.int .i64 3)) w fun t_43 w =>
  cd t_43 (
    pvv prog (binOp .and 5 t_2 (.int .u8 15)) w fun t_44 w =>
    pvv prog (convert 5 21 t_44) w fun t_45 w =>
    pvv prog (binOp .shl 21 t_45 (.int .u64 12)) w fun t_46 w =>
    pvv prog (binOp .and 5 t_22 (.int .u8 63)) w fun t_47 w =>
    pvv prog (convert 5 21 t_47) w fun t_48 w =>
    pvv prog (binOp .shl 21 t_48 (.int .u64 6)) w fun t_49 w =>
    pvv prog (binOp .or 21 t_46 t_49) w fun t_50 w =>
    pvv prog (binOp .and 5 t_38 (.int .u8 63)) w fun t_51 w =>
    pvv prog (convert 5 21 t_51) w fun t_52 w =>
    pvv prog (binOp .or 21 t_50 t_52) w fun t_53 w =>
    K (.tuple #[t_53, (.int .i64 3)]) w) <|
  pvv prog (Instr.index 9 s_p0 (.int .i64 3)) w fun t_54 w =>
  pvv prog (binOp .lss 5 t_54 (.int .u8 128)) w fun t_55 w =>
  gate (some (t_55, false)) (fun K => K t_54 w) w fun t_56 w =>
  gate (some (t_55, false)) (fun K => pvv prog (binOp .lss 5 (.int .u8 191) t_56) w K) w fun t_57 w =>
  pv prog (oPick t_55 (.bool true) t_57) w fun t_58 w =>
  cd t_58 (
    K (.tuple #[(.int .i32 65533), (.int .i64 1)]) w) <|
  pvv prog (binOp .and 5 t_2 (.int .u8 7)) w fun t_59 w =>
  pvv prog (convert 5 21 t_59) w fun t_60 w =>
  pvv prog (binOp .shl 21 t_60 (.int .u64 18)) w fun t_61 w =>
  pvv prog (binOp .and 5 t_22 (.int .u8 63)) w fun t_62 w =>
  pvv prog (convert 5 21 t_62) w fun t_63 w =>
  pvv prog (binOp .shl 21 t_63 (.int .u64 12)) w fun t_64 w =>
  pvv prog (binOp .or 21 t_61 t_64) w fun t_65 w =>
  pvv prog (binOp .and 5 t_38 (.int .u8 63)) w fun t_66 w =>
  pvv prog (convert 5 21 t_66) w fun t_67 w =>
  pvv prog (binOp .shl 21 t_67 (.int .u64 6)) w fun t_68 w =>
  pvv prog (binOp .or 21 t_65 t_68) w fun t_69 w =>
  pvv prog (binOp .and 5 t_54 (.int .u8 63)) w fun t_70 w =>
  pvv prog (convert 5 21 t_70) w fun t_71 w =>
  pvv prog (binOp .or 21 t_69 t_71) w fun t_72 w =>
  K (.tuple #[t_72, (.int .i64 4)]) w
theorem B103_eq (s_p0 : Value) (w : World) (K : Value → World → Prop) : denFn prog Tryd.f103 T103 [s_p0] w K = B103 s_p0 w K := by kernel_rfl
theorem c103 {s_p0 : Value} {w : World} {K : Value → World → Prop} (h : B103 s_p0 w K) : Calls prog 103 #[s_p0] w (Ret K) :=
  denFn_calls Tryd.func103 T103_ok (Eq.mpr (B103_eq s_p0 w K) h)

-- 7 holdfast/holdfastlaw14.AuditNone
def T7 : Ann := (.seq .none (.seq .none (.seq .none (.seq .none (.seq .none (.seq .none (.seq .none .none)))))))
theorem T7_ok : chkFn prog Tryd.f7 T7 = true := by kernel_rfl
def B7 (n_p0 s_p1 : Value) (w : World) (K : Value → World → Prop) : Prop :=
  Calls prog 16 #[(.pointer none), n_p0, s_p1, s_p1] w (Ret fun t_0 w =>
  pvv prog (Instr.extract t_0 0) w fun t_1 w =>
  pvv prog (Instr.extract t_0 1) w fun t_2 w =>
  efv prog (Instr.alloc 34 true (.tuple #[])) w fun t_3 w =>
  efu prog (Instr.storeAt 34 t_3 t_1) w fun u_4 w =>
  Calls prog 18 #[(.pointer none), n_p0] w (Ret fun t_5 w =>
  pvv prog (Instr.extract t_5 0) w fun t_6 w =>
  pvv prog (Instr.extract t_5 1) w fun t_7 w =>
  Calls prog 17 #[(.pointer none)] w (Ret fun t_8 w =>
  pvv prog (Instr.extract t_8 0) w fun t_9 w =>
  pvv prog (Instr.extract t_8 1) w fun t_10 w =>
  efv prog (Instr.alloc 36 true (.tuple #[])) w fun t_11 w =>
  efu prog (Instr.storeAt 36 t_11 t_10) w fun u_12 w =>
  Calls prog 14 #[(.pointer none)] w (Ret fun t_13 w =>
  pvv prog (Instr.extract t_13 0) w fun t_14 w =>
  pvv prog (Instr.extract t_13 1) w fun t_15 w =>
  efv prog (Instr.alloc 36 true (.tuple #[])) w fun t_16 w =>
  efu prog (Instr.storeAt 36 t_16 t_15) w fun u_17 w =>
  Calls prog 11 #[] w (Ret fun t_18 w =>
  gate (some (t_18, true)) (fun K => K t_2 w) w fun t_19 w =>
  gate (some (t_18, true)) (fun K => pvv prog (oEq .eql 41 (.tmp 40) (.const (.int .i64 1)) t_19 (.int .i64 1)) w K) w fun t_20 w =>
  pv prog (oPick t_18 t_20 (.bool false)) w fun t_21 w =>
  gate (some (t_21, true)) (fun K => K t_7 w) w fun t_22 w =>
  gate (some (t_21, true)) (fun K => pvv prog (oEq .eql 41 (.tmp 44) (.const (.int .i64 1)) t_22 (.int .i64 1)) w K) w fun t_23 w =>
  pv prog (oPick t_21 t_23 (.bool false)) w fun t_24 w =>
  gate (some (t_24, true)) (fun K => K t_9 w) w fun t_25 w =>
  gate (some (t_24, true)) (fun K => pvv prog (oEq .eql 3 (.tmp 48) (.const (.int .i64 0)) t_25 (.int .i64 0)) w K) w fun t_26 w =>
  pv prog (oPick t_24 t_26 (.bool false)) w fun t_27 w =>
  gate (some (t_27, true)) (fun K => K t_14 w) w fun t_28 w =>
  gate (some (t_27, true)) (fun K => pvv prog (oEq .eql 3 (.tmp 52) (.const (.int .i64 0)) t_28 (.int .i64 0)) w K) w fun t_29 w =>
  pv prog (oPick t_27 t_29 (.bool false)) w fun t_30 w =>
  gate (some (t_30, true)) (fun K => K (.pointer none) w) w fun t_31 w =>
  gate (some (t_30, true)) (fun K => Calls prog 20 #[t_31] w (Ret K)) w fun t_32 w =>
  gate (some (t_30, true)) (fun K => pvv prog (oEq .eql 41 (.tmp 57) (.const (.int .i64 1)) t_32 (.int .i64 1)) w K) w fun t_33 w =>
  pv prog (oPick t_30 t_33 (.bool false)) w fun t_34 w =>
  gate (some (t_34, true)) (fun K => K (.pointer none) w) w fun t_35 w =>
  gate (some (t_34, true)) (fun K => Calls prog 13 #[t_35] w (Ret K)) w fun t_36 w =>
  gate (some (t_34, true)) (fun K => pv prog (oBi .len #[31] 3 #[false] #[t_36]) w K) w fun t_37 w =>
  gate (some (t_34, true)) (fun K => pvv prog (oEq .eql 3 (.tmp 63) (.const (.int .i64 0)) t_37 (.int .i64 0)) w K) w fun t_38 w =>
  pv prog (oPick t_34 t_38 (.bool false)) w fun t_39 w =>
  gate (some (t_39, true)) (fun K => K (.pointer none) w) w fun t_40 w =>
  gate (some (t_39, true)) (fun K => Calls prog 19 #[t_40] w (Ret K)) w fun t_41 w =>
  gate (some (t_39, true)) (fun K => pvv prog (Instr.build 36 #[]) w K) w fun t_42 w =>
  gate (some (t_39, true)) (fun K => pvv prog (oEq .eql 36 (.tmp 68) (.tmp 69) t_41 t_42) w K) w fun t_43 w =>
  pv prog (oPick t_39 t_43 (.bool false)) w fun t_44 w =>
  gate (some (t_44, true)) (fun K => K (.pointer none) w) w fun t_45 w =>
  gate (some (t_44, true)) (fun K => Calls prog 15 #[t_45] w (Ret K)) w fun t_46 w =>
  gate (some (t_44, true)) (fun K => pvv prog (oEq .eql 3 (.tmp 74) (.const (.int .i64 0)) t_46 (.int .i64 0)) w K) w fun t_47 w =>
  pv prog (oPick t_44 t_47 (.bool false)) w fun t_48 w =>
  gate (some (t_48, true)) (fun K => K (.pointer none) w) w fun t_49 w =>
  gate (some (t_48, true)) (fun K => Calls prog 24 #[t_49] w (Ret K)) w fun t_50 w =>
  gate (some (t_48, true)) (fun K => pv prog (oBi .len #[51] 3 #[false] #[t_50]) w K) w fun t_51 w =>
  gate (some (t_48, true)) (fun K => pvv prog (oEq .eql 3 (.tmp 80) (.const (.int .i64 0)) t_51 (.int .i64 0)) w K) w fun t_52 w =>
  pv prog (oPick t_48 t_52 (.bool false)) w fun t_53 w =>
  gate (some (t_53, true)) (fun K => K (.pointer none) w) w fun t_54 w =>
  gate (some (t_53, true)) (fun K => Calls prog 21 #[t_54] w (Ret K)) w fun t_55 w =>
  gate (some (t_53, true)) (fun K => pvv prog (oEq .eql 23 (.tmp 85) (.const (.pointer none)) t_55 (.pointer none)) w K) w fun t_56 w =>
  pv prog (oPick t_53 t_56 (.bool false)) w fun t_57 w =>
  K t_57 w)))))
theorem B7_eq (n_p0 s_p1 : Value) (w : World) (K : Value → World → Prop) : denFn prog Tryd.f7 T7 [n_p0, s_p1] w K = B7 n_p0 s_p1 w K := by kernel_rfl
theorem c7 {n_p0 s_p1 : Value} {w : World} {K : Value → World → Prop} (h : B7 n_p0 s_p1 w K) : Calls prog 7 #[n_p0, s_p1] w (Ret K) :=
  denFn_calls Tryd.func7 T7_ok (Eq.mpr (B7_eq n_p0 s_p1 w K) h)

-- 23 holdfast/holdfastlaw14.same
def T23 : Ann := (.seq .none (.seq .none (.seq .none (.seq .none (.seq (.seq .none (.seq (.seq .none .none) .none)) (.seq (.seq .none (.block (.loop 1180555591920392341520 [11] (.seq (.seq .none (.seq .none .none)) (.seq (.block (.seq (.draw [.op 0 .pure, .op 1 .pure, .op 2 .pure, .op 4 .pure, .op 5 .pure, .op 6 .pure, .op 3 .load, .op 7 .load, .op 8 .pure]) (.seq (.seq .none .none) .none))) .none))))) (.seq .none .none)))))))
theorem T23_ok : chkFn prog Tryd.f23 T23 = true := by kernel_rfl
def B23 (c_p0 r_p1 : Value) (w : World) (K : Value → World → Prop) : Prop :=
  Calls prog 13 #[c_p0] w (Ret fun t_0 w =>
  Calls prog 33 #[r_p1] w (Ret fun t_1 w =>
  Calls prog 14 #[c_p0] w (Ret fun t_2 w =>
  pvv prog (Instr.extract t_2 0) w fun t_3 w =>
  pvv prog (Instr.extract t_2 1) w fun t_4 w =>
  efv prog (Instr.alloc 36 true (.tuple #[])) w fun h_5 w =>
  efu prog (Instr.storeAt 36 h_5 t_4) w fun u_6 w =>
  Calls prog 34 #[r_p1] w (Ret fun t_7 w =>
  pvv prog (Instr.extract t_7 0) w fun t_8 w =>
  pvv prog (Instr.extract t_7 1) w fun t_9 w =>
  efv prog (Instr.alloc 36 true (.tuple #[])) w fun g_10 w =>
  efu prog (Instr.storeAt 36 g_10 t_9) w fun u_11 w =>
  pv prog (oBi .len #[31] 3 #[false] #[t_0]) w fun t_12 w =>
  pv prog (oBi .len #[31] 3 #[false] #[t_1]) w fun t_13 w =>
  pvv prog (oEq .neq 3 (.tmp 27) (.tmp 29) t_12 t_13) w fun t_14 w =>
  gate (some (t_14, false)) (fun K => K t_3 w) w fun t_15 w =>
  gate (some (t_14, false)) (fun K => K t_8 w) w fun t_16 w =>
  gate (some (t_14, false)) (fun K => pvv prog (oEq .neq 3 (.tmp 32) (.tmp 33) t_15 t_16) w K) w fun t_17 w =>
  pv prog (oPick t_14 (.bool true) t_17) w fun t_18 w =>
  gate (some (t_18, false)) (fun K => ldv prog (Instr.loadAt 36 h_5) w K) w fun t_19 w =>
  gate (some (t_18, false)) (fun K => ldv prog (Instr.loadAt 36 g_10) w K) w fun t_20 w =>
  gate (some (t_18, false)) (fun K => pvv prog (oEq .neq 36 (.tmp 37) (.tmp 38) t_19 t_20) w K) w fun t_21 w =>
  pv prog (oPick t_18 (.bool true) t_21) w fun t_22 w =>
  gate (some (t_22, false)) (fun K => K c_p0 w) w fun t_23 w =>
  gate (some (t_22, false)) (fun K => Calls prog 19 #[t_23] w (Ret K)) w fun t_24 w =>
  gate (some (t_22, false)) (fun K => K r_p1 w) w fun t_25 w =>
  gate (some (t_22, false)) (fun K => Calls prog 35 #[t_25] w (Ret K)) w fun t_26 w =>
  gate (some (t_22, false)) (fun K => pvv prog (oEq .neq 36 (.tmp 43) (.tmp 45) t_24 t_26) w K) w fun t_27 w =>
  pv prog (oPick t_22 (.bool true) t_27) w fun t_28 w =>
  gate (some (t_28, false)) (fun K => K c_p0 w) w fun t_29 w =>
  gate (some (t_28, false)) (fun K => Calls prog 15 #[t_29] w (Ret K)) w fun t_30 w =>
  gate (some (t_28, false)) (fun K => K r_p1 w) w fun t_31 w =>
  gate (some (t_28, false)) (fun K => Calls prog 36 #[t_31] w (Ret K)) w fun t_32 w =>
  gate (some (t_28, false)) (fun K => pvv prog (oEq .neq 3 (.tmp 50) (.tmp 52) t_30 t_32) w K) w fun t_33 w =>
  pv prog (oPick t_28 (.bool true) t_33) w fun t_34 w =>
  cd t_34 (
    K (.bool false) w) <|
  lp (fun σ w again_36 => pop σ fun i_35 σ => fin σ <|
    pv prog (oBi .len #[31] 3 #[false] #[t_0]) w fun t_37 w =>
    pvv prog (binOp .lss 3 i_35 t_37) w fun t_38 w =>
    cd t_38 (
      dr w fun w =>
      pvv prog (Instr.indexAt 31 t_0 i_35) w fun t_39 w =>
      pvv prog (Instr.indexAt 31 t_1 i_35) w fun t_40 w =>
      bindS (vN (Instr.loadAt 34 t_39)) fun m_42 => ldv prog (Instr.loadAt 34 t_39) w fun t_41 w =>
      bindS (vN (Instr.loadAt 34 t_40)) fun m_44 => ldv prog (Instr.loadAt 34 t_40) w fun t_43 w =>
      pvv prog (oEq .neq 34 (.tmp 64) (.tmp 68) t_41 t_43) w fun t_45 w =>
      cd t_45 (
        K (.bool false) w) <|
      pvv prog (binOp .add 3 i_35 (.int .i64 1)) w fun t_46 w =>
      again_36 [t_46] w) <|
    Calls prog 24 #[c_p0] w (Ret fun t_47 w =>
    Calls prog 38 #[r_p1] w (Ret fun t_48 w =>
    Calls prog 37 #[t_47, t_48] w (Ret fun t_49 w =>
    K t_49 w)))) [(.int .i64 0)] w))))
theorem B23_eq (c_p0 r_p1 : Value) (w : World) (K : Value → World → Prop) : denFn prog Tryd.f23 T23 [c_p0, r_p1] w K = B23 c_p0 r_p1 w K := by kernel_rfl
theorem c23 {c_p0 r_p1 : Value} {w : World} {K : Value → World → Prop} (h : B23 c_p0 r_p1 w K) : Calls prog 23 #[c_p0, r_p1] w (Ret K) :=
  denFn_calls Tryd.func23 T23_ok (Eq.mpr (B23_eq c_p0 r_p1 w K) h)

-- 37 holdfast/holdfastref06.SameRows
def T37 : Ann := (.seq .none (.seq (.seq .none (.seq (.seq .none .none) .none)) (.seq (.seq .none (.block (.loop 4398046509104 [5] (.seq (.seq .none (.seq .none .none)) (.seq (.block (.seq (.draw [.op 0 .pure, .op 1 .pure, .op 2 .pure, .op 3 .pure, .op 5 .pure, .op 6 .pure, .op 7 .pure, .op 8 .pure, .op 4 .load, .op 9 .load, .op 10 .pure, .op 11 .pure, .op 12 .pure, .op 13 .pure, .op 14 .pure, .op 15 .pure, .op 17 .pure, .op 18 .pure, .op 19 .pure, .op 20 .pure, .op 16 .load, .op 21 .load, .op 22 .eff, .op 23 .pure, .op 24 .pure]) (.seq (.seq .none .none) .none))) .none))))) (.seq .none .none))))
theorem T37_ok : chkFn prog Tryd.f37 T37 = true := by kernel_rfl
def B37 (a_p0 b_p1 : Value) (w : World) (K : Value → World → Prop) : Prop :=
  pv prog (oBi .len #[51] 3 #[false] #[a_p0]) w fun t_0 w =>
  pv prog (oBi .len #[51] 3 #[false] #[b_p1]) w fun t_1 w =>
  pvv prog (oEq .neq 3 (.tmp 7) (.tmp 9) t_0 t_1) w fun t_2 w =>
  cd t_2 (
    K (.bool false) w) <|
  lp (fun σ w again_4 => pop σ fun i_3 σ => fin σ <|
    pv prog (oBi .len #[51] 3 #[false] #[a_p0]) w fun t_5 w =>
    pvv prog (binOp .lss 3 i_3 t_5) w fun t_6 w =>
    cd t_6 (
      dr w fun w =>
      pvv prog (Instr.indexAt 51 a_p0 i_3) w fun t_7 w =>
      pvv prog (Instr.fieldAt 71 t_7 0) w fun t_8 w =>
      pvv prog (Instr.indexAt 51 b_p1 i_3) w fun t_9 w =>
      pvv prog (Instr.fieldAt 71 t_9 0) w fun t_10 w =>
      bindS (vN (Instr.loadAt 9 t_8)) fun m_12 => ldv prog (Instr.loadAt 9 t_8) w fun t_11 w =>
      bindS (vN (Instr.loadAt 9 t_10)) fun m_14 => ldv prog (Instr.loadAt 9 t_10) w fun t_13 w =>
      pvv prog (oEq .neq 9 (.tmp 21) (.tmp 26) t_11 t_13) w fun t_15 w =>
      gate (some (t_15, false)) (fun K => K a_p0 w) w fun t_16 w =>
      gate (some (t_15, false)) (fun K => K i_3 w) w fun t_17 w =>
      gate (some (t_15, false)) (fun K => pvv prog (Instr.indexAt 51 t_16 t_17) w K) w fun t_18 w =>
      gate (some (t_15, false)) (fun K => pvv prog (Instr.fieldAt 71 t_18 1) w K) w fun t_19 w =>
      gate (some (t_15, false)) (fun K => K b_p1 w) w fun t_20 w =>
      gate (some (t_15, false)) (fun K => K i_3 w) w fun t_21 w =>
      gate (some (t_15, false)) (fun K => pvv prog (Instr.indexAt 51 t_20 t_21) w K) w fun t_22 w =>
      gate (some (t_15, false)) (fun K => pvv prog (Instr.fieldAt 71 t_22 1) w K) w fun t_23 w =>
      bindS (vN (Instr.loadAt 69 t_19)) fun m_25 => gate (some (t_15, false)) (fun K => ldv prog (Instr.loadAt 69 t_19) w K) w fun t_24 w =>
      bindS (vN (Instr.loadAt 69 t_23)) fun m_27 => gate (some (t_15, false)) (fun K => ldv prog (Instr.loadAt 69 t_23) w K) w fun t_26 w =>
      gate (some (t_15, false)) (fun K => Calls prog 48 #[t_24, t_26] w (Ret fun s_32 w => stay prog none m_14 t_13 w <| stay prog none m_12 t_11 w <| K s_32 w)) w fun t_28 w =>
      gate (some (t_15, false)) (fun K => pvv prog (Op.unary .not t_28) w K) w fun t_29 w =>
      pv prog (oPick t_15 (.bool true) t_29) w fun t_30 w =>
      cd t_30 (
        K (.bool false) w) <|
      pvv prog (binOp .add 3 i_3 (.int .i64 1)) w fun t_31 w =>
      again_4 [t_31] w) <|
    K (.bool true) w) [(.int .i64 0)] w
theorem B37_eq (a_p0 b_p1 : Value) (w : World) (K : Value → World → Prop) : denFn prog Tryd.f37 T37 [a_p0, b_p1] w K = B37 a_p0 b_p1 w K := by kernel_rfl
theorem c37 {a_p0 b_p1 : Value} {w : World} {K : Value → World → Prop} (h : B37 a_p0 b_p1 w K) : Calls prog 37 #[a_p0, b_p1] w (Ret K) :=
  denFn_calls Tryd.func37 T37_ok (Eq.mpr (B37_eq a_p0 b_p1 w K) h)

-- 91 unicode/utf8.DecodeLastRuneInString
def T91 : Ann := (.seq .none (.seq .none (.seq (.seq .none (.seq (.seq .none .none) .none)) (.seq .none (.seq .none (.seq (.seq .none (.seq (.seq .none .none) .none)) (.seq .none (.meet 17171480608 [5] (.seq .none (.block (.loop 17146314784 [5] (.seq (.seq .none (.seq .none .none)) (.seq (.block (.seq .none (.seq .none .none))) .none))))) (.meet 51539607584 [5] (.seq .none (.seq .none .none)) (.seq .none (.seq (.seq .none (.seq (.seq .none .none) .none)) (.seq .none .none))))))))))))
theorem T91_ok : chkFn prog Tryd.f91 T91 = true := by kernel_rfl
def B91 (s_p0 : Value) (w : World) (K : Value → World → Prop) : Prop :=
  pv prog (oBi .len #[9] 3 #[false] #[s_p0]) w fun t_0 w =>
  pvv prog (oEq .eql 3 (.tmp 9) (.const (.int .i64 0)) t_0 (.int .i64 0)) w fun t_1 w =>
  cd t_1 (
    K (.tuple #[(.int .i32 65533), (.int .i64 0)]) w) <|
  pvv prog (binOp .sub 3 t_0 (.int .i64 1)) w fun t_2 w =>
  pvv prog (Instr.index 9 s_p0 t_2) w fun t_3 w =>
  pvv prog (convert 5 21 t_3) w fun t_4 w =>
  pvv prog (binOp .lss 21 t_4 (.int .i32 128)) w fun t_5 w =>
  cd t_5 (
    K (.tuple #[t_4, (.int .i64 1)]) w) <|
  pvv prog (binOp .sub 3 t_0 (.int .i64 4)) w fun t_6 w =>
  pv prog (oBi .max #[3, 3] 3 #[false, true] #[t_6, (.int .i64 0)]) w fun t_7 w =>
  jn (fun σ w => pop σ fun start_8 σ => fin σ <|
    jn (fun σ w => pop σ fun start_9 σ => fin σ <|
      pvv prog (Instr.sliceAt 9 s_p0 (some start_9) (some t_0) none) w fun t_10 w =>
      Calls prog 89 #[t_10] w (Ret fun t_11 w =>
      pvv prog (Instr.extract t_11 0) w fun t_12 w =>
      pvv prog (Instr.extract t_11 1) w fun t_13 w =>
      pvv prog (binOp .add 3 start_9 t_13) w fun t_14 w =>
      pvv prog (oEq .neq 3 (.tmp 46) (.tmp 47) t_14 t_0) w fun t_15 w =>
      cd t_15 (
        K (.tuple #[(.int .i32 65533), (.int .i64 1)]) w) <|
      K (.tuple #[t_12, t_13]) w)) fun k_16 =>
    pvv prog (binOp .lss 3 start_8 (.int .i64 0)) w fun t_17 w =>
    cd t_17 (
      k_16 [(.int .i64 0)] w) <|
    k_16 [start_8] w) fun k_18 =>
  pvv prog (binOp .sub 3 t_2 (.int .i64 1)) w fun t_19 w =>
  lp (fun σ w again_21 => pop σ fun start_20 σ => fin σ <|
    pvv prog (binOp .geq 3 start_20 t_7) w fun t_22 w =>
    cd t_22 (
      pvv prog (Instr.index 9 s_p0 start_20) w fun t_23 w =>
      Calls prog 105 #[t_23] w (Ret fun t_24 w =>
      cd t_24 (
        k_18 [start_20] w) <|
      pvv prog (binOp .sub 3 start_20 (.int .i64 1)) w fun t_25 w =>
      again_21 [t_25] w)) <|
    k_18 [start_20] w) [t_19] w
theorem B91_eq (s_p0 : Value) (w : World) (K : Value → World → Prop) : denFn prog Tryd.f91 T91 [s_p0] w K = B91 s_p0 w K := by kernel_rfl
theorem c91 {s_p0 : Value} {w : World} {K : Value → World → Prop} (h : B91 s_p0 w K) : Calls prog 91 #[s_p0] w (Ret K) :=
  denFn_calls Tryd.func91 T91_ok (Eq.mpr (B91_eq s_p0 w K) h)

-- 28 (*holdfast/holdfastref14.Chain).Prune
def T28 : Ann := (.seq .none (.seq (.seq .none (.seq (.seq .none .none) .none)) (.seq (.seq .none (.seq (.seq .none .none) .none)) (.seq .none (.seq .none (.seq .none (.seq .none (.seq .none (.seq .none .none)))))))))
theorem T28_ok : chkFn prog Tryd.f28 T28 = true := by kernel_rfl
def B28 (c_p0 n_p1 : Value) (w : World) (K : Value → World → Prop) : Prop :=
  pvv prog (oEq .eql 25 (.tmp 8) (.const (.pointer none)) c_p0 (.pointer none)) w fun t_0 w =>
  cd t_0 (
    K (.tuple #[(.int .i64 0), (.int .i64 1)]) w) <|
  pv prog (oNil c_p0) w fun t_1 w =>
  pvv prog (Instr.fieldAt 61 t_1 1) w fun t_2 w =>
  ldv prog (Instr.loadAt 3 t_2) w fun t_3 w =>
  pvv prog (binOp .gtr 3 n_p1 t_3) w fun t_4 w =>
  gate (some (t_4, false)) (fun K => K n_p1 w) w fun t_5 w =>
  gate (some (t_4, false)) (fun K => K c_p0 w) w fun t_6 w =>
  gate (some (t_4, false)) (fun K => pv prog (oNil t_6) w K) w fun t_7 w =>
  gate (some (t_4, false)) (fun K => pvv prog (Instr.fieldAt 61 t_7 0) w K) w fun t_8 w =>
  gate (some (t_4, false)) (fun K => ldv prog (Instr.loadAt 3 t_8) w K) w fun t_9 w =>
  gate (some (t_4, false)) (fun K => pvv prog (binOp .lss 3 t_5 t_9) w K) w fun t_10 w =>
  pv prog (oPick t_4 (.bool true) t_10) w fun t_11 w =>
  cd t_11 (
    K (.tuple #[(.int .i64 0), (.int .i64 2)]) w) <|
  pv prog (oNil c_p0) w fun t_12 w =>
  pvv prog (Instr.fieldAt 61 t_12 0) w fun t_13 w =>
  ldv prog (Instr.loadAt 3 t_13) w fun t_14 w =>
  pvv prog (binOp .sub 3 n_p1 t_14) w fun t_15 w =>
  Calls prog 44 #[c_p0, t_15] w (Ret fun t_16 w =>
  pv prog (oNil c_p0) w fun t_17 w =>
  pvv prog (Instr.fieldAt 61 t_17 3) w fun t_18 w =>
  efu prog (Instr.storeAt 36 t_18 t_16) w fun u_19 w =>
  pv prog (oNil c_p0) w fun t_20 w =>
  pvv prog (Instr.fieldAt 61 t_20 0) w fun t_21 w =>
  efu prog (Instr.storeAt 3 t_21 n_p1) w fun u_22 w =>
  pv prog (oNil c_p0) w fun t_23 w =>
  pvv prog (Instr.fieldAt 61 t_23 6) w fun t_24 w =>
  ldv prog (Instr.loadAt 31 t_24) w fun t_25 w =>
  pvv prog (Instr.sliceAt 31 t_25 (some t_15) none none) w fun t_26 w =>
  ef prog (oBi .append #[31, 31] 31 #[false, false] #[(.slice none 0 0), t_26]) w fun t_27 w =>
  pv prog (oNil c_p0) w fun t_28 w =>
  pvv prog (Instr.fieldAt 61 t_28 6) w fun t_29 w =>
  efu prog (Instr.storeAt 31 t_29 t_27) w fun u_30 w =>
  K (.tuple #[t_15, (.int .i64 0)]) w)
theorem B28_eq (c_p0 n_p1 : Value) (w : World) (K : Value → World → Prop) : denFn prog Tryd.f28 T28 [c_p0, n_p1] w K = B28 c_p0 n_p1 w K := by kernel_rfl
theorem c28 {c_p0 n_p1 : Value} {w : World} {K : Value → World → Prop} (h : B28 c_p0 n_p1 w K) : Calls prog 28 #[c_p0, n_p1] w (Ret K) :=
  denFn_calls Tryd.func28 T28_ok (Eq.mpr (B28_eq c_p0 n_p1 w K) h)

-- 45 holdfast/codec.Row
def T45 : Ann := (.seq .none (.seq (.seq .none (.seq (.seq .none .none) .none)) (.seq .none (.seq (.seq .none (.block (.loop 4294901852 [4, 16] (.seq .none (.seq (.seq .none .none) (.seq (.block (.seq .none (.seq (.seq .none (.seq (.seq .none .none) .none)) .none))) .none)))))) (.seq (.seq .none (.seq (.seq .none .none) .none)) (.seq .none .none))))))
theorem T45_ok : chkFn prog Tryd.f45 T45 = true := by kernel_rfl
def B45 (columns_p0 : Value) (w : World) (K : Value → World → Prop) : Prop :=
  pv prog (oBi .len #[69] 3 #[false] #[columns_p0]) w fun t_0 w =>
  pvv prog (binOp .gtr 3 t_0 (.int .i64 8)) w fun t_1 w =>
  cd t_1 (
    K (.tuple #[(.slice none 0 0), (.int .i64 2)]) w) <|
  pv prog (oBi .len #[69] 3 #[false] #[columns_p0]) w fun t_2 w =>
  pvv prog (convert 3 5 t_2) w fun t_3 w =>
  efv prog (Instr.buildSlice 72 1 #[(0, t_3)]) w fun t_4 w =>
  pv prog (oBi .len #[69] 3 #[false] #[columns_p0]) w fun t_5 w =>
  lp (fun σ w again_8 => pop σ fun out_6 σ => pop σ fun t_7 σ => fin σ <|
    pvv prog (binOp .lss 3 t_7 t_5) w fun t_9 w =>
    cd t_9 (
      pvv prog (Instr.indexAt 69 columns_p0 t_7) w fun t_10 w =>
      ldv prog (Instr.loadAt 9 t_10) w fun t_11 w =>
      pv prog (oBi .len #[9] 3 #[false] #[t_11]) w fun t_12 w =>
      pvv prog (binOp .gtr 3 t_12 (.int .i64 70)) w fun t_13 w =>
      cd t_13 (
        K (.tuple #[(.slice none 0 0), (.int .i64 6)]) w) <|
      pv prog (oBi .len #[9] 3 #[false] #[t_11]) w fun t_14 w =>
      pvv prog (convert 3 5 t_14) w fun t_15 w =>
      efv prog (Instr.buildSlice 72 1 #[(0, t_15)]) w fun t_16 w =>
      ef prog (oBi .append #[72, 72] 72 #[false, false] #[out_6, t_16]) w fun t_17 w =>
      ef prog (oBi .append #[72, 9] 72 #[false, false] #[t_17, t_11]) w fun t_18 w =>
      pvv prog (binOp .add 3 t_7 (.int .i64 1)) w fun t_19 w =>
      again_8 [t_18, t_19] w) <|
    pv prog (oBi .len #[72] 3 #[false] #[out_6]) w fun t_20 w =>
    pvv prog (binOp .gtr 3 t_20 (.int .i64 72)) w fun t_21 w =>
    cd t_21 (
      K (.tuple #[(.slice none 0 0), (.int .i64 6)]) w) <|
    K (.tuple #[out_6, (.int .i64 0)]) w) [t_4, (.int .i64 0)] w
theorem B45_eq (columns_p0 : Value) (w : World) (K : Value → World → Prop) : denFn prog Tryd.f45 T45 [columns_p0] w K = B45 columns_p0 w K := by kernel_rfl
theorem c45 {columns_p0 : Value} {w : World} {K : Value → World → Prop} (h : B45 columns_p0 w K) : Calls prog 45 #[columns_p0] w (Ret K) :=
  denFn_calls Tryd.func45 T45_ok (Eq.mpr (B45_eq columns_p0 w K) h)

-- 27 (*holdfast/holdfastref14.Chain).Anchor
def T27 : Ann := (.seq .none (.seq (.seq .none (.seq (.seq .none .none) .none)) (.seq (.draw [.op 0 .pure, .op 1 .pure, .op 2 .pure, .op 4 .pure, .op 5 .pure, .op 6 .pure, .op 7 .load, .op 3 .eff, .op 8 .pure, .op 9 .pure, .op 10 .eff, .op 11 .pure, .op 12 .pure, .op 13 .eff]) (.seq (.draw [.op 0 .pure, .op 1 .pure, .op 2 .pure, .op 4 .pure, .op 5 .pure, .op 6 .pure, .op 3 .load, .op 8 .pure, .op 7 .load, .op 9 .eff]) .none))))
theorem T27_ok : chkFn prog Tryd.f27 T27 = true := by kernel_rfl
def B27 (c_p0 : Value) (w : World) (K : Value → World → Prop) : Prop :=
  efv prog (Instr.alloc 36 true (.tuple #[])) w fun t_0 w =>
  pvv prog (oEq .eql 25 (.tmp 4) (.const (.pointer none)) c_p0 (.pointer none)) w fun t_1 w =>
  cd t_1 (
    pvv prog (Instr.build 36 #[]) w fun t_2 w =>
    efu prog (Instr.storeAt 36 t_0 t_2) w fun u_3 w =>
    ∃ r_4, (do loadVar 36 (← asAddr t_0)).run prog w = .ok r_4 w ∧ K (.tuple #[(.int .i64 0), r_4]) w) <|
  dr w fun w =>
  pv prog (oNil c_p0) w fun t_5 w =>
  pvv prog (Instr.fieldAt 61 t_5 5) w fun t_6 w =>
  bindS (vN (Instr.loadAt 36 t_6)) fun m_8 => ldv prog (Instr.loadAt 36 t_6) w fun t_7 w =>
  Calls prog 36 #[c_p0] w (Ret fun t_9 w => stay prog none m_8 t_7 w <| 
  pv prog (oNil c_p0) w fun t_10 w =>
  pvv prog (Instr.fieldAt 61 t_10 1) w fun t_11 w =>
  efu prog (Instr.storeAt 3 t_11 t_9) w fun u_12 w =>
  pv prog (oNil c_p0) w fun t_13 w =>
  pvv prog (Instr.fieldAt 61 t_13 4) w fun t_14 w =>
  efu prog (Instr.storeAt 36 t_14 t_7) w fun u_15 w =>
  dr w fun w =>
  pv prog (oNil c_p0) w fun t_16 w =>
  pvv prog (Instr.fieldAt 61 t_16 1) w fun t_17 w =>
  pv prog (oNil c_p0) w fun t_18 w =>
  pvv prog (Instr.fieldAt 61 t_18 4) w fun t_19 w =>
  bindS (vN (Instr.loadAt 3 t_17)) fun m_21 => ldv prog (Instr.loadAt 3 t_17) w fun t_20 w =>
  bindS (vN (Instr.loadAt 36 t_19)) fun m_23 => ldv prog (Instr.loadAt 36 t_19) w fun t_22 w =>
  efu prog (Instr.storeAt 36 t_0 t_22) w fun u_24 w =>
  ∃ r_25, (do loadVar 36 (← asAddr t_0)).run prog w = .ok r_25 w ∧ K (.tuple #[t_20, r_25]) w)
theorem B27_eq (c_p0 : Value) (w : World) (K : Value → World → Prop) : denFn prog Tryd.f27 T27 [c_p0] w K = B27 c_p0 w K := by kernel_rfl
theorem c27 {c_p0 : Value} {w : World} {K : Value → World → Prop} (h : B27 c_p0 w K) : Calls prog 27 #[c_p0] w (Ret K) :=
  denFn_calls Tryd.func27 T27_ok (Eq.mpr (B27_eq c_p0 w K) h)

-- 43 holdfast/holdfastref14.Bytes
def T43 : Ann := (.seq .none (.seq (.draw [.op 0 .pure, .op 3 .pure, .op 6 .pure, .op 8 .pure, .op 1 .load, .op 4 .load, .op 7 .load, .op 9 .load, .op 2 .eff, .op 5 .eff, .op 10 .eff, .op 11 .eff, .op 12 .pure, .op 13 .pure, .op 14 .pure, .op 15 .pure, .op 16 .pure]) (.seq .none .none)))
theorem T43_ok : chkFn prog Tryd.f43 T43 = true := by kernel_rfl
def B43 (x_p0 : Value) (w : World) (K : Value → World → Prop) : Prop :=
  efv prog (Instr.box 34 x_p0) w fun x_0 w =>
  dr w fun w =>
  pvv prog (Instr.fieldAt 34 x_0 0) w fun t_1 w =>
  pvv prog (Instr.fieldAt 34 x_0 1) w fun t_2 w =>
  pvv prog (Instr.fieldAt 34 x_0 2) w fun t_3 w =>
  pvv prog (Instr.fieldAt 34 x_0 3) w fun t_4 w =>
  bindS (vN (Instr.loadAt 3 t_1)) fun m_6 => ldv prog (Instr.loadAt 3 t_1) w fun t_5 w =>
  bindS (vN (Instr.loadAt 3 t_2)) fun m_8 => ldv prog (Instr.loadAt 3 t_2) w fun t_7 w =>
  bindS (vN (Instr.loadAt 9 t_3)) fun m_10 => ldv prog (Instr.loadAt 9 t_3) w fun t_9 w =>
  bindS (vN (Instr.loadAt 9 t_4)) fun m_12 => ldv prog (Instr.loadAt 9 t_4) w fun t_11 w =>
  Calls prog 49 #[t_5] w (Ret fun t_13 w => stay prog none m_12 t_11 w <| stay prog none m_10 t_9 w <| stay prog none m_8 t_7 w <| 
  Calls prog 49 #[t_7] w (Ret fun t_14 w => stay prog none m_12 t_11 w <| stay prog none m_10 t_9 w <| stay prog none m_6 t_5 w <| 
  efv prog (Instr.buildSlice 69 4 #[(0, t_13), (1, t_14), (2, t_9), (3, t_11)]) w fun t_15 w => stay prog none m_8 t_7 w <| stay prog none m_6 t_5 w <| 
  Calls prog 56 #[t_15] w (Ret fun t_16 w => stay prog none m_12 t_11 w <| stay prog none m_10 t_9 w <| stay prog none m_8 t_7 w <| stay prog none m_6 t_5 w <| 
  pvv prog (Instr.extract t_16 0) w fun t_17 w =>
  pvv prog (Instr.extract t_16 1) w fun t_18 w =>
  K t_17 w)))
theorem B43_eq (x_p0 : Value) (w : World) (K : Value → World → Prop) : denFn prog Tryd.f43 T43 [x_p0] w K = B43 x_p0 w K := by kernel_rfl
theorem c43 {x_p0 : Value} {w : World} {K : Value → World → Prop} (h : B43 x_p0 w K) : Calls prog 43 #[x_p0] w (Ret K) :=
  denFn_calls Tryd.func43 T43_ok (Eq.mpr (B43_eq x_p0 w K) h)

-- 40 holdfast/audit.read
def T40 : Ann := (.seq .none (.seq (.seq .none (.seq (.seq .none .none) .none)) (.seq (.seq .none (.block (.loop 34359673328 [16] (.seq .none (.seq (.seq .none .none) (.seq (.block (.seq .none (.seq .none (.seq (.seq .none (.seq (.seq .none .none) .none)) .none)))) .none)))))) (.seq .none .none))))
theorem T40_ok : chkFn prog Tryd.f40 T40 = true := by kernel_rfl
def B40 (l_p0 to_p1 : Value) (w : World) (K : Value → World → Prop) : Prop :=
  pv prog (oBi .len #[69] 3 #[false] #[l_p0]) w fun t_0 w =>
  pv prog (oBi .len #[88] 3 #[false] #[to_p1]) w fun t_1 w =>
  pvv prog (oEq .neq 3 (.tmp 10) (.tmp 12) t_0 t_1) w fun t_2 w =>
  cd t_2 (
    K (.bool false) w) <|
  pv prog (oBi .len #[69] 3 #[false] #[l_p0]) w fun t_3 w =>
  lp (fun σ w again_5 => pop σ fun t_4 σ => fin σ <|
    pvv prog (binOp .lss 3 t_4 t_3) w fun t_6 w =>
    cd t_6 (
      pvv prog (Instr.indexAt 69 l_p0 t_4) w fun t_7 w =>
      ldv prog (Instr.loadAt 9 t_7) w fun t_8 w =>
      Calls prog 53 #[t_8] w (Ret fun t_9 w =>
      pvv prog (Instr.extract t_9 0) w fun t_10 w =>
      pvv prog (Instr.extract t_9 1) w fun t_11 w =>
      pvv prog (oEq .neq 41 (.tmp 26) (.const (.int .i64 0)) t_11 (.int .i64 0)) w fun t_12 w =>
      cd t_12 (
        K (.bool false) w) <|
      pvv prog (Instr.indexAt 88 to_p1 t_4) w fun t_13 w =>
      ldv prog (Instr.loadAt 74 t_13) w fun t_14 w =>
      pv prog (oNil t_14) w fun t_15 w =>
      efu prog (Instr.storeAt 3 t_15 t_10) w fun u_16 w =>
      pvv prog (binOp .add 3 t_4 (.int .i64 1)) w fun t_17 w =>
      again_5 [t_17] w)) <|
    K (.bool true) w) [(.int .i64 0)] w
theorem B40_eq (l_p0 to_p1 : Value) (w : World) (K : Value → World → Prop) : denFn prog Tryd.f40 T40 [l_p0, to_p1] w K = B40 l_p0 to_p1 w K := by kernel_rfl
theorem c40 {l_p0 to_p1 : Value} {w : World} {K : Value → World → Prop} (h : B40 l_p0 to_p1 w K) : Calls prog 40 #[l_p0, to_p1] w (Ret K) :=
  denFn_calls Tryd.func40 T40_ok (Eq.mpr (B40_eq l_p0 to_p1 w K) h)

-- 14 (*holdfast/audit.Chain).Anchored
def T14 : Ann := (.seq .none (.seq (.seq .none (.seq (.seq .none .none) .none)) (.seq (.draw [.op 0 .pure, .op 1 .pure, .op 2 .pure, .op 3 .pure, .op 5 .pure, .op 6 .pure, .op 7 .pure, .op 8 .pure, .op 4 .load, .op 10 .pure, .op 9 .load, .op 11 .eff]) .none)))
theorem T14_ok : chkFn prog Tryd.f14 T14 = true := by kernel_rfl
def B14 (c_p0 : Value) (w : World) (K : Value → World → Prop) : Prop :=
  efv prog (Instr.alloc 36 true (.tuple #[])) w fun t_0 w =>
  pvv prog (oEq .eql 23 (.tmp 4) (.const (.pointer none)) c_p0 (.pointer none)) w fun t_1 w =>
  cd t_1 (
    pvv prog (Instr.build 36 #[]) w fun t_2 w =>
    efu prog (Instr.storeAt 36 t_0 t_2) w fun u_3 w =>
    ∃ r_4, (do loadVar 36 (← asAddr t_0)).run prog w = .ok r_4 w ∧ K (.tuple #[(.int .i64 0), r_4]) w) <|
  dr w fun w =>
  pv prog (oNil c_p0) w fun t_5 w =>
  pvv prog (Instr.fieldAt 59 t_5 1) w fun t_6 w =>
  pvv prog (Instr.fieldAt 57 t_6 0) w fun t_7 w =>
  pv prog (oNil c_p0) w fun t_8 w =>
  pvv prog (Instr.fieldAt 59 t_8 1) w fun t_9 w =>
  pvv prog (Instr.fieldAt 57 t_9 1) w fun t_10 w =>
  bindS (vN (Instr.loadAt 3 t_7)) fun m_12 => ldv prog (Instr.loadAt 3 t_7) w fun t_11 w =>
  bindS (vN (Instr.loadAt 36 t_10)) fun m_14 => ldv prog (Instr.loadAt 36 t_10) w fun t_13 w =>
  efu prog (Instr.storeAt 36 t_0 t_13) w fun u_15 w =>
  ∃ r_16, (do loadVar 36 (← asAddr t_0)).run prog w = .ok r_16 w ∧ K (.tuple #[t_11, r_16]) w
theorem B14_eq (c_p0 : Value) (w : World) (K : Value → World → Prop) : denFn prog Tryd.f14 T14 [c_p0] w K = B14 c_p0 w K := by kernel_rfl
theorem c14 {c_p0 : Value} {w : World} {K : Value → World → Prop} (h : B14 c_p0 w K) : Calls prog 14 #[c_p0] w (Ret K) :=
  denFn_calls Tryd.func14 T14_ok (Eq.mpr (B14_eq c_p0 w K) h)

-- 15 (*holdfast/audit.Chain).Count
def T15 : Ann := (.seq .none (.seq (.seq .none (.seq (.seq .none .none) .none)) (.seq (.draw [.op 0 .pure, .op 1 .pure, .op 2 .pure, .op 3 .pure, .op 5 .pure, .op 6 .pure, .op 7 .pure, .op 4 .load, .op 8 .load, .op 9 .pure, .op 10 .pure, .op 11 .pure]) .none)))
theorem T15_ok : chkFn prog Tryd.f15 T15 = true := by kernel_rfl
def B15 (c_p0 : Value) (w : World) (K : Value → World → Prop) : Prop :=
  pvv prog (oEq .eql 23 (.tmp 3) (.const (.pointer none)) c_p0 (.pointer none)) w fun t_0 w =>
  cd t_0 (
    K (.int .i64 0) w) <|
  dr w fun w =>
  pv prog (oNil c_p0) w fun t_1 w =>
  pvv prog (Instr.fieldAt 59 t_1 0) w fun t_2 w =>
  pvv prog (Instr.fieldAt 57 t_2 0) w fun t_3 w =>
  pv prog (oNil c_p0) w fun t_4 w =>
  pvv prog (Instr.fieldAt 59 t_4 4) w fun t_5 w =>
  bindS (vN (Instr.loadAt 3 t_3)) fun m_7 => ldv prog (Instr.loadAt 3 t_3) w fun t_6 w =>
  bindS (vN (Instr.loadAt 31 t_5)) fun m_9 => ldv prog (Instr.loadAt 31 t_5) w fun t_8 w =>
  pv prog (oBi .len #[31] 3 #[false] #[t_8]) w fun t_10 w =>
  pvv prog (binOp .add 3 t_6 t_10) w fun t_11 w =>
  K t_11 w
theorem B15_eq (c_p0 : Value) (w : World) (K : Value → World → Prop) : denFn prog Tryd.f15 T15 [c_p0] w K = B15 c_p0 w K := by kernel_rfl
theorem c15 {c_p0 : Value} {w : World} {K : Value → World → Prop} (h : B15 c_p0 w K) : Calls prog 15 #[c_p0] w (Ret K) :=
  denFn_calls Tryd.func15 T15_ok (Eq.mpr (B15_eq c_p0 w K) h)

-- 73 internal/stringslite.HasPrefix
def T73 : Ann := (.seq .none (.seq .none .none))
theorem T73_ok : chkFn prog Tryd.f73 T73 = true := by kernel_rfl
def B73 (s_p0 prefix_p1 : Value) (w : World) (K : Value → World → Prop) : Prop :=
  pv prog (oBi .len #[9] 3 #[false] #[s_p0]) w fun t_0 w =>
  pv prog (oBi .len #[9] 3 #[false] #[prefix_p1]) w fun t_1 w =>
  pvv prog (binOp .geq 3 t_0 t_1) w fun t_2 w =>
  gate (some (t_2, true)) (fun K => K s_p0 w) w fun t_3 w =>
  gate (some (t_2, true)) (fun K => K prefix_p1 w) w fun t_4 w =>
  gate (some (t_2, true)) (fun K => pv prog (oBi .len #[9] 3 #[false] #[t_4]) w K) w fun t_5 w =>
  gate (some (t_2, true)) (fun K => pvv prog (Instr.sliceAt 9 t_3 none (some t_5) none) w K) w fun t_6 w =>
  gate (some (t_2, true)) (fun K => K prefix_p1 w) w fun t_7 w =>
  gate (some (t_2, true)) (fun K => pvv prog (oEq .eql 9 (.tmp 14) (.tmp 15) t_6 t_7) w K) w fun t_8 w =>
  pv prog (oPick t_2 t_8 (.bool false)) w fun t_9 w =>
  K t_9 w
theorem B73_eq (s_p0 prefix_p1 : Value) (w : World) (K : Value → World → Prop) : denFn prog Tryd.f73 T73 [s_p0, prefix_p1] w K = B73 s_p0 prefix_p1 w K := by kernel_rfl
theorem c73 {s_p0 prefix_p1 : Value} {w : World} {K : Value → World → Prop} (h : B73 s_p0 prefix_p1 w K) : Calls prog 73 #[s_p0, prefix_p1] w (Ret K) :=
  denFn_calls Tryd.func73 T73_ok (Eq.mpr (B73_eq s_p0 prefix_p1 w K) h)

-- 21 (*holdfast/audit.Chain).Fork
def T21 : Ann := (.seq .none (.seq (.seq .none (.seq (.seq .none .none) .none)) (.seq .none (.seq .none (.seq .none .none)))))
theorem T21_ok : chkFn prog Tryd.f21 T21 = true := by kernel_rfl
def B21 (c_p0 : Value) (w : World) (K : Value → World → Prop) : Prop :=
  pvv prog (oEq .eql 23 (.tmp 4) (.const (.pointer none)) c_p0 (.pointer none)) w fun t_0 w =>
  cd t_0 (
    K (.pointer none) w) <|
  pv prog (oNil c_p0) w fun t_1 w =>
  ldv prog (Instr.loadAt 59 t_1) w fun t_2 w =>
  efv prog (Instr.alloc 59 true (.tuple #[])) w fun f_3 w =>
  efu prog (Instr.storeAt 59 f_3 t_2) w fun u_4 w =>
  pv prog (oNil c_p0) w fun t_5 w =>
  pvv prog (Instr.fieldAt 59 t_5 4) w fun t_6 w =>
  ldv prog (Instr.loadAt 31 t_6) w fun t_7 w =>
  Calls prog 30 #[t_7] w (Ret fun t_8 w =>
  pvv prog (Instr.fieldAt 59 f_3 4) w fun t_9 w =>
  efu prog (Instr.storeAt 31 t_9 t_8) w fun u_10 w =>
  K f_3 w)
theorem B21_eq (c_p0 : Value) (w : World) (K : Value → World → Prop) : denFn prog Tryd.f21 T21 [c_p0] w K = B21 c_p0 w K := by kernel_rfl
theorem c21 {c_p0 : Value} {w : World} {K : Value → World → Prop} (h : B21 c_p0 w K) : Calls prog 21 #[c_p0] w (Ret K) :=
  denFn_calls Tryd.func21 T21_ok (Eq.mpr (B21_eq c_p0 w K) h)

-- 19 (*holdfast/audit.Chain).Head
def T19 : Ann := (.seq .none (.seq (.seq .none (.seq (.seq .none .none) .none)) (.seq .none .none)))
theorem T19_ok : chkFn prog Tryd.f19 T19 = true := by kernel_rfl
def B19 (c_p0 : Value) (w : World) (K : Value → World → Prop) : Prop :=
  efv prog (Instr.alloc 36 true (.tuple #[])) w fun t_0 w =>
  pvv prog (oEq .eql 23 (.tmp 3) (.const (.pointer none)) c_p0 (.pointer none)) w fun t_1 w =>
  cd t_1 (
    pvv prog (Instr.build 36 #[]) w fun t_2 w =>
    efu prog (Instr.storeAt 36 t_0 t_2) w fun u_3 w =>
    ∃ r_4, (do loadVar 36 (← asAddr t_0)).run prog w = .ok r_4 w ∧ K r_4 w) <|
  pv prog (oNil c_p0) w fun t_5 w =>
  pvv prog (Instr.fieldAt 59 t_5 2) w fun t_6 w =>
  ldv prog (Instr.loadAt 36 t_6) w fun t_7 w =>
  efu prog (Instr.storeAt 36 t_0 t_7) w fun u_8 w =>
  ∃ r_9, (do loadVar 36 (← asAddr t_0)).run prog w = .ok r_9 w ∧ K r_9 w
theorem B19_eq (c_p0 : Value) (w : World) (K : Value → World → Prop) : denFn prog Tryd.f19 T19 [c_p0] w K = B19 c_p0 w K := by kernel_rfl
theorem c19 {c_p0 : Value} {w : World} {K : Value → World → Prop} (h : B19 c_p0 w K) : Calls prog 19 #[c_p0] w (Ret K) :=
  denFn_calls Tryd.func19 T19_ok (Eq.mpr (B19_eq c_p0 w K) h)

-- 97 strconv.bitSizeError
def T97 : Ann := (.seq .none (.seq .none .none))
theorem T97_ok : chkFn prog Tryd.f97 T97 = true := by kernel_rfl
def B97 (fn_p0 str_p1 bitSize_p2 : Value) (w : World) (K : Value → World → Prop) : Prop :=
  Calls prog 106 #[str_p1] w (Ret fun t_0 w =>
  Calls prog 108 #[bitSize_p2] w (Ret fun t_1 w =>
  pvv prog (binOp .add 9 (.string ⟨#[105, 110, 118, 97, 108, 105, 100, 32, 98, 105, 116, 32, 115, 105, 122, 101, 32]⟩) t_1) w fun t_2 w =>
  Calls prog 107 #[t_2] w (Ret fun t_3 w =>
  pvv prog (Instr.build 146 #[(0, fn_p0), (1, t_0), (2, t_3)]) w fun t_4 w =>
  efv prog (Instr.box 146 t_4) w fun t_5 w =>
  K t_5 w)))
theorem B97_eq (fn_p0 str_p1 bitSize_p2 : Value) (w : World) (K : Value → World → Prop) : denFn prog Tryd.f97 T97 [fn_p0, str_p1, bitSize_p2] w K = B97 fn_p0 str_p1 bitSize_p2 w K := by kernel_rfl
theorem c97 {fn_p0 str_p1 bitSize_p2 : Value} {w : World} {K : Value → World → Prop} (h : B97 fn_p0 str_p1 bitSize_p2 w K) : Calls prog 97 #[fn_p0, str_p1, bitSize_p2] w (Ret K) :=
  denFn_calls Tryd.func97 T97_ok (Eq.mpr (B97_eq fn_p0 str_p1 bitSize_p2 w K) h)

-- 96 strconv.baseError
def T96 : Ann := (.seq .none (.seq .none .none))
theorem T96_ok : chkFn prog Tryd.f96 T96 = true := by kernel_rfl
def B96 (fn_p0 str_p1 base_p2 : Value) (w : World) (K : Value → World → Prop) : Prop :=
  Calls prog 106 #[str_p1] w (Ret fun t_0 w =>
  Calls prog 108 #[base_p2] w (Ret fun t_1 w =>
  pvv prog (binOp .add 9 (.string ⟨#[105, 110, 118, 97, 108, 105, 100, 32, 98, 97, 115, 101, 32]⟩) t_1) w fun t_2 w =>
  Calls prog 107 #[t_2] w (Ret fun t_3 w =>
  pvv prog (Instr.build 146 #[(0, fn_p0), (1, t_0), (2, t_3)]) w fun t_4 w =>
  efv prog (Instr.box 146 t_4) w fun t_5 w =>
  K t_5 w)))
theorem B96_eq (fn_p0 str_p1 base_p2 : Value) (w : World) (K : Value → World → Prop) : denFn prog Tryd.f96 T96 [fn_p0, str_p1, base_p2] w K = B96 fn_p0 str_p1 base_p2 w K := by kernel_rfl
theorem c96 {fn_p0 str_p1 base_p2 : Value} {w : World} {K : Value → World → Prop} (h : B96 fn_p0 str_p1 base_p2 w K) : Calls prog 96 #[fn_p0, str_p1, base_p2] w (Ret K) :=
  denFn_calls Tryd.func96 T96_ok (Eq.mpr (B96_eq fn_p0 str_p1 base_p2 w K) h)

-- 83 math/bits.RotateLeft32
def T83 : Ann := (.seq .none (.seq .none (.seq .none .none)))
theorem T83_ok : chkFn prog Tryd.f83 T83 = true := by kernel_rfl
def B83 (x_p0 k_p1 : Value) (w : World) (K : Value → World → Prop) : Prop :=
  pvv prog (convert 3 104 k_p1) w fun t_0 w =>
  pvv prog (binOp .and 104 t_0 (.int .u64 31)) w fun t_1 w =>
  pvv prog (binOp .shl 101 x_p0 t_1) w fun t_2 w =>
  pvv prog (binOp .sub 104 (.int .u64 32) t_1) w fun t_3 w =>
  pvv prog (binOp .shr 101 x_p0 t_3) w fun t_4 w =>
  pvv prog (binOp .or 101 t_2 t_4) w fun t_5 w =>
  K t_5 w
theorem B83_eq (x_p0 k_p1 : Value) (w : World) (K : Value → World → Prop) : denFn prog Tryd.f83 T83 [x_p0, k_p1] w K = B83 x_p0 k_p1 w K := by kernel_rfl
theorem c83 {x_p0 k_p1 : Value} {w : World} {K : Value → World → Prop} (h : B83 x_p0 k_p1 w K) : Calls prog 83 #[x_p0, k_p1] w (Ret K) :=
  denFn_calls Tryd.func83 T83_ok (Eq.mpr (B83_eq x_p0 k_p1 w K) h)

-- 71 internal/stringslite.TrimPrefix
def T71 : Ann := (.seq .none (.seq (.seq .none (.seq (.seq .none .none) .none)) (.seq .none .none)))
theorem T71_ok : chkFn prog Tryd.f71 T71 = true := by kernel_rfl
def B71 (s_p0 prefix_p1 : Value) (w : World) (K : Value → World → Prop) : Prop :=
  Calls prog 73 #[s_p0, prefix_p1] w (Ret fun t_0 w =>
  cd t_0 (
    pv prog (oBi .len #[9] 3 #[false] #[prefix_p1]) w fun t_1 w =>
    pvv prog (Instr.sliceAt 9 s_p0 (some t_1) none none) w fun t_2 w =>
    K t_2 w) <|
  K s_p0 w)
theorem B71_eq (s_p0 prefix_p1 : Value) (w : World) (K : Value → World → Prop) : denFn prog Tryd.f71 T71 [s_p0, prefix_p1] w K = B71 s_p0 prefix_p1 w K := by kernel_rfl
theorem c71 {s_p0 prefix_p1 : Value} {w : World} {K : Value → World → Prop} (h : B71 s_p0 prefix_p1 w K) : Calls prog 71 #[s_p0, prefix_p1] w (Ret K) :=
  denFn_calls Tryd.func71 T71_ok (Eq.mpr (B71_eq s_p0 prefix_p1 w K) h)

-- 88 (*strings.asciiSet).contains
def T88 : Ann := (.seq .none (.seq .none .none))
theorem T88_ok : chkFn prog Tryd.f88 T88 = true := by kernel_rfl
def B88 (as_p0 c_p1 : Value) (w : World) (K : Value → World → Prop) : Prop :=
  pv prog (oNil as_p0) w fun t_0 w =>
  pvv prog (Instr.indexAt 115 t_0 c_p1) w fun t_1 w =>
  ldv prog (Instr.loadAt 4 t_1) w fun t_2 w =>
  K t_2 w
theorem B88_eq (as_p0 c_p1 : Value) (w : World) (K : Value → World → Prop) : denFn prog Tryd.f88 T88 [as_p0, c_p1] w K = B88 as_p0 c_p1 w K := by kernel_rfl
theorem c88 {as_p0 c_p1 : Value} {w : World} {K : Value → World → Prop} (h : B88 as_p0 c_p1 w K) : Calls prog 88 #[as_p0, c_p1] w (Ret K) :=
  denFn_calls Tryd.func88 T88_ok (Eq.mpr (B88_eq as_p0 c_p1 w K) h)

-- 49 holdfast/holdfastref11.Num
def T49 : Ann := (.seq .none (.seq .none (.seq .none .none)))
theorem T49_ok : chkFn prog Tryd.f49 T49 = true := by kernel_rfl
def B49 (n_p0 : Value) (w : World) (K : Value → World → Prop) : Prop :=
  Calls prog 58 #[n_p0] w (Ret fun t_0 w =>
  pvv prog (Instr.extract t_0 0) w fun t_1 w =>
  pvv prog (Instr.extract t_0 1) w fun t_2 w =>
  K t_1 w)
theorem B49_eq (n_p0 : Value) (w : World) (K : Value → World → Prop) : denFn prog Tryd.f49 T49 [n_p0] w K = B49 n_p0 w K := by kernel_rfl
theorem c49 {n_p0 : Value} {w : World} {K : Value → World → Prop} (h : B49 n_p0 w K) : Calls prog 49 #[n_p0] w (Ret K) :=
  denFn_calls Tryd.func49 T49_ok (Eq.mpr (B49_eq n_p0 w K) h)

-- 90 strings.ContainsRune
def T90 : Ann := (.seq .none (.seq .none .none))
theorem T90_ok : chkFn prog Tryd.f90 T90 = true := by kernel_rfl
def B90 (s_p0 r_p1 : Value) (w : World) (K : Value → World → Prop) : Prop :=
  Calls prog 104 #[s_p0, r_p1] w (Ret fun t_0 w =>
  pvv prog (binOp .geq 3 t_0 (.int .i64 0)) w fun t_1 w =>
  K t_1 w)
theorem B90_eq (s_p0 r_p1 : Value) (w : World) (K : Value → World → Prop) : denFn prog Tryd.f90 T90 [s_p0, r_p1] w K = B90 s_p0 r_p1 w K := by kernel_rfl
theorem c90 {s_p0 r_p1 : Value} {w : World} {K : Value → World → Prop} (h : B90 s_p0 r_p1 w K) : Calls prog 90 #[s_p0, r_p1] w (Ret K) :=
  denFn_calls Tryd.func90 T90_ok (Eq.mpr (B90_eq s_p0 r_p1 w K) h)

-- 70 holdfast/holdfastref02.digit
def T70 : Ann := (.seq .none (.seq .none .none))
theorem T70_ok : chkFn prog Tryd.f70 T70 = true := by kernel_rfl
def B70 (n_p0 : Value) (w : World) (K : Value → World → Prop) : Prop :=
  pvv prog (Instr.index 9 (.string ⟨#[48, 49, 50, 51, 52, 53, 54, 55, 56, 57, 97, 98, 99, 100, 101, 102]⟩) n_p0) w fun t_0 w =>
  K t_0 w
theorem B70_eq (n_p0 : Value) (w : World) (K : Value → World → Prop) : denFn prog Tryd.f70 T70 [n_p0] w K = B70 n_p0 w K := by kernel_rfl
theorem c70 {n_p0 : Value} {w : World} {K : Value → World → Prop} (h : B70 n_p0 w K) : Calls prog 70 #[n_p0] w (Ret K) :=
  denFn_calls Tryd.func70 T70_ok (Eq.mpr (B70_eq n_p0 w K) h)

-- 61 strconv.FormatInt
def T61 : Ann := (.seq .none (.seq .none .none))
theorem T61_ok : chkFn prog Tryd.f61 T61 = true := by kernel_rfl
def B61 (i_p0 base_p1 : Value) (w : World) (K : Value → World → Prop) : Prop :=
  Calls prog 72 #[i_p0, base_p1] w (Ret fun t_0 w =>
  K t_0 w)
theorem B61_eq (i_p0 base_p1 : Value) (w : World) (K : Value → World → Prop) : denFn prog Tryd.f61 T61 [i_p0, base_p1] w K = B61 i_p0 base_p1 w K := by kernel_rfl
theorem c61 {i_p0 base_p1 : Value} {w : World} {K : Value → World → Prop} (h : B61 i_p0 base_p1 w K) : Calls prog 61 #[i_p0, base_p1] w (Ret K) :=
  denFn_calls Tryd.func61 T61_ok (Eq.mpr (B61_eq i_p0 base_p1 w K) h)

-- 92 internal/strconv.lower
def T92 : Ann := (.seq .none (.seq .none .none))
theorem T92_ok : chkFn prog Tryd.f92 T92 = true := by kernel_rfl
def B92 (c_p0 : Value) (w : World) (K : Value → World → Prop) : Prop :=
  pvv prog (binOp .or 5 c_p0 (.int .u8 32)) w fun t_0 w =>
  K t_0 w
theorem B92_eq (c_p0 : Value) (w : World) (K : Value → World → Prop) : denFn prog Tryd.f92 T92 [c_p0] w K = B92 c_p0 w K := by kernel_rfl
theorem c92 {c_p0 : Value} {w : World} {K : Value → World → Prop} (h : B92 c_p0 w K) : Calls prog 92 #[c_p0] w (Ret K) :=
  denFn_calls Tryd.func92 T92_ok (Eq.mpr (B92_eq c_p0 w K) h)


end Go.Proofs.YtjeiojibnmfibaaDoor
