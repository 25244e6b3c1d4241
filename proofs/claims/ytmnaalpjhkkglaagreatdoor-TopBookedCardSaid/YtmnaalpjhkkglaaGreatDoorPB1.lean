import Derived.Test.YtmnaalpjhkkglaaGreatDoorPI
set_option linter.all false
set_option maxRecDepth 100000
namespace Go.Proofs.YtmnaalpjhkkglaaGreatDoor
open Go Hold
-- 13 holdfast/audit.Load
def T13 : Ann := (.seq .none (.seq .none (.seq (.seq (.draw [.op 0 .pure, .op 1 .pure, .op 2 .pure, .op 3 .pure, .op 4 .pure, .op 5 .pure, .op 6 .pure, .op 7 .pure, .op 8 .pure, .op 9 .pure, .op 10 .pure, .op 11 .pure, .op 12 .load, .op 13 .pure, .op 14 .pure, .op 15 .pure, .op 16 .pure, .op 17 .pure, .op 18 .pure, .op 20 .pure, .op 21 .pure, .op 22 .pure, .op 23 .pure, .op 24 .pure, .op 25 .pure, .op 26 .pure, .op 27 .pure, .op 28 .pure, .op 29 .pure, .op 30 .pure, .op 19 .load, .op 31 .eff, .op 32 .eff, .op 33 .pure, .op 34 .pure]) (.seq (.seq .none .none) .none)) (.seq (.draw [.op 0 .pure, .op 1 .pure, .op 2 .pure, .op 3 .pure, .op 5 .pure, .op 6 .pure, .op 7 .pure, .op 8 .pure, .op 10 .pure, .op 11 .pure, .op 12 .pure, .op 4 .load, .op 9 .load, .op 13 .load, .op 14 .pure, .op 15 .pure, .op 16 .pure, .op 17 .pure, .op 18 .pure, .op 19 .pure, .op 20 .pure, .op 22 .pure, .op 23 .pure, .op 24 .pure, .op 25 .pure, .op 27 .pure, .op 28 .pure, .op 21 .load, .op 26 .load, .op 29 .pure, .op 30 .pure, .op 31 .pure, .op 32 .pure, .op 33 .pure]) (.seq (.seq (.draw [.op 0 .pure, .op 1 .pure, .op 2 .pure, .op 3 .pure, .op 4 .pure, .op 6 .pure, .op 7 .pure, .op 8 .pure, .op 9 .pure, .op 5 .load, .op 10 .eff, .op 11 .pure, .op 12 .pure, .op 13 .pure, .op 14 .pure, .op 15 .pure, .op 17 .pure, .op 18 .pure, .op 19 .pure, .op 20 .pure, .op 16 .load, .op 21 .eff, .op 22 .pure, .op 23 .pure, .op 24 .pure, .op 25 .pure, .op 26 .pure, .op 28 .pure, .op 29 .pure, .op 30 .pure, .op 27 .load, .op 31 .eff, .op 32 .pure, .op 33 .pure]) (.seq (.seq .none .none) .none)) (.seq .none (.seq (.seq .none (.block (.loop 1606938044258990275541962009264412865964960937294851567780812 [6, 116] (.seq .none (.seq (.seq .none .none) (.seq (.block (.seq .none (.seq .none (.seq (.seq (.draw [.op 0 .pure, .op 2 .pure, .op 1 .load, .op 3 .load, .op 4 .eff, .op 5 .pure, .op 6 .pure, .op 7 .pure, .op 8 .pure, .op 9 .load, .op 10 .pure, .op 11 .pure, .op 12 .pure, .op 13 .pure, .op 14 .pure, .op 17 .pure, .op 15 .load, .op 16 .pure, .op 18 .eff, .op 19 .eff, .op 20 .pure, .op 21 .pure]) (.seq (.seq .none .none) .none)) (.seq (.draw [.op 0 .pure, .op 4 .pure, .op 1 .load, .op 2 .pure, .op 3 .load, .op 5 .load, .op 6 .pure, .op 7 .load, .op 8 .pure, .op 9 .eff, .op 10 .pure, .op 11 .eff]) (.seq (.seq (.draw [.op 0 .pure, .op 1 .load, .op 2 .pure, .op 3 .pure, .op 4 .pure, .op 5 .pure, .op 6 .load, .op 7 .pure, .op 8 .pure, .op 9 .pure, .op 10 .pure, .op 11 .pure, .op 13 .pure, .op 12 .load, .op 14 .pure, .op 15 .pure, .op 16 .pure, .op 17 .pure, .op 19 .pure, .op 20 .pure, .op 21 .pure, .op 18 .load, .op 22 .load, .op 23 .pure, .op 24 .pure]) (.seq (.seq .none .none) .none)) (.seq .none (.draw [.op 0 .pure, .op 1 .pure, .op 2 .pure, .op 3 .pure, .op 4 .load, .op 5 .load, .op 6 .eff, .op 7 .eff, .op 8 .pure, .op 9 .pure, .op 10 .eff])))))))) .none)))))) (.seq .none .none))))))))
theorem T13_ok : chkFn prog Tryz.f13 T13 = true := by kernel_rfl
def B13 (rows_p0 : Value) (w : World) (K : Value → World → Prop) : Prop :=
  Calls prog 5 #[] w (Ret fun t_0 w =>
  dr w fun w =>
  pv prog (oBi .len #[37] 3 #[false] #[rows_p0]) w fun t_1 w =>
  pvv prog (binOp .lss 3 t_1 (.int .i64 4)) w fun t_2 w =>
  gate (some (t_2, false)) (fun K => K rows_p0 w) w fun t_3 w =>
  gate (some (t_2, false)) (fun K => pv prog (oBi .len #[37] 3 #[false] #[t_3]) w K) w fun t_4 w =>
  gate (some (t_2, false)) (fun K => pvv prog (binOp .gtr 3 t_4 (.int .i64 68)) w K) w fun t_5 w =>
  pv prog (oPick t_2 (.bool true) t_5) w fun t_6 w =>
  gate (some (t_6, false)) (fun K => K rows_p0 w) w fun t_7 w =>
  gate (some (t_6, false)) (fun K => pvv prog (Instr.indexAt 37 t_7 (.int .i64 0)) w K) w fun t_8 w =>
  gate (some (t_6, false)) (fun K => pvv prog (Instr.fieldAt 41 t_8 0) w K) w fun t_9 w =>
  bindS (vN (Instr.loadAt 9 t_9)) fun m_11 => gate (some (t_6, false)) (fun K => ldv prog (Instr.loadAt 9 t_9) w K) w fun t_10 w =>
  gate (some (t_6, false)) (fun K => pvv prog (oEq .neq 9 (.tmp 23) (.const (.string ⟨#[35]⟩)) t_10 (.string ⟨#[35]⟩)) w K) w fun t_12 w =>
  pv prog (oPick t_6 (.bool true) t_12) w fun t_13 w =>
  gate (some (t_13, false)) (fun K => K rows_p0 w) w fun t_14 w =>
  gate (some (t_13, false)) (fun K => pvv prog (Instr.indexAt 37 t_14 (.int .i64 0)) w K) w fun t_15 w =>
  gate (some (t_13, false)) (fun K => pvv prog (Instr.fieldAt 41 t_15 1) w K) w fun t_16 w =>
  gate (some (t_13, false)) (fun K => K t_0 w) w fun t_17 w =>
  gate (some (t_13, false)) (fun K => pv prog (oNil t_17) w K) w fun t_18 w =>
  gate (some (t_13, false)) (fun K => pvv prog (Instr.fieldAt 69 t_18 0) w K) w fun t_19 w =>
  gate (some (t_13, false)) (fun K => pvv prog (Instr.fieldAt 66 t_19 0) w K) w fun t_20 w =>
  gate (some (t_13, false)) (fun K => K t_0 w) w fun t_21 w =>
  gate (some (t_13, false)) (fun K => pv prog (oNil t_21) w K) w fun t_22 w =>
  gate (some (t_13, false)) (fun K => pvv prog (Instr.fieldAt 69 t_22 1) w K) w fun t_23 w =>
  gate (some (t_13, false)) (fun K => pvv prog (Instr.fieldAt 66 t_23 0) w K) w fun t_24 w =>
  gate (some (t_13, false)) (fun K => K t_0 w) w fun t_25 w =>
  gate (some (t_13, false)) (fun K => pv prog (oNil t_25) w K) w fun t_26 w =>
  gate (some (t_13, false)) (fun K => pvv prog (Instr.fieldAt 69 t_26 3) w K) w fun t_27 w =>
  bindS (vN (Instr.loadAt 39 t_16)) fun m_29 => gate (some (t_13, false)) (fun K => ldv prog (Instr.loadAt 39 t_16) w K) w fun t_28 w =>
  gate (some (t_13, false)) (fun K => efv prog (Instr.buildSlice 133 3 #[(0, t_20), (1, t_24), (2, t_27)]) w fun s_213 w => stay prog (some (t_13, false)) m_29 t_28 w <| stay prog (some (t_6, false)) m_11 t_10 w <| K s_213 w) w fun t_30 w =>
  gate (some (t_13, false)) (fun K => Calls prog 35 #[t_28, t_30] w (Ret fun s_212 w => stay prog (some (t_6, false)) m_11 t_10 w <| K s_212 w)) w fun t_31 w =>
  gate (some (t_13, false)) (fun K => pvv prog (Op.unary .not t_31) w K) w fun t_32 w =>
  pv prog (oPick t_13 (.bool true) t_32) w fun t_33 w =>
  cd t_33 (
    K (.tuple #[(.pointer none), (.int .i64 3)]) w) <|
  dr w fun w =>
  pv prog (oNil t_0) w fun t_34 w =>
  pvv prog (Instr.fieldAt 69 t_34 0) w fun t_35 w =>
  pvv prog (Instr.fieldAt 66 t_35 0) w fun t_36 w =>
  pv prog (oNil t_0) w fun t_37 w =>
  pvv prog (Instr.fieldAt 69 t_37 1) w fun t_38 w =>
  pvv prog (Instr.fieldAt 66 t_38 0) w fun t_39 w =>
  pv prog (oNil t_0) w fun t_40 w =>
  pvv prog (Instr.fieldAt 69 t_40 3) w fun t_41 w =>
  bindS (vN (Instr.loadAt 3 t_36)) fun m_43 => ldv prog (Instr.loadAt 3 t_36) w fun t_42 w =>
  bindS (vN (Instr.loadAt 3 t_39)) fun m_45 => ldv prog (Instr.loadAt 3 t_39) w fun t_44 w =>
  bindS (vN (Instr.loadAt 3 t_41)) fun m_47 => ldv prog (Instr.loadAt 3 t_41) w fun t_46 w =>
  pv prog (oBi .max #[3, 3, 3] 3 #[false, false, false] #[t_42, t_44, t_46]) w fun t_48 w =>
  pvv prog (binOp .leq 3 t_48 (.int .i64 1099511627776)) w fun t_49 w =>
  gate (some (t_49, true)) (fun K => K t_0 w) w fun t_50 w =>
  gate (some (t_49, true)) (fun K => pv prog (oNil t_50) w K) w fun t_51 w =>
  gate (some (t_49, true)) (fun K => pvv prog (Instr.fieldAt 69 t_51 1) w K) w fun t_52 w =>
  gate (some (t_49, true)) (fun K => pvv prog (Instr.fieldAt 66 t_52 0) w K) w fun t_53 w =>
  gate (some (t_49, true)) (fun K => K t_0 w) w fun t_54 w =>
  gate (some (t_49, true)) (fun K => pv prog (oNil t_54) w K) w fun t_55 w =>
  gate (some (t_49, true)) (fun K => pvv prog (Instr.fieldAt 69 t_55 0) w K) w fun t_56 w =>
  gate (some (t_49, true)) (fun K => pvv prog (Instr.fieldAt 66 t_56 0) w K) w fun t_57 w =>
  gate (some (t_49, true)) (fun K => K rows_p0 w) w fun t_58 w =>
  gate (some (t_49, true)) (fun K => pv prog (oBi .len #[37] 3 #[false] #[t_58]) w K) w fun t_59 w =>
  bindS (vN (Instr.loadAt 3 t_53)) fun m_61 => gate (some (t_49, true)) (fun K => ldv prog (Instr.loadAt 3 t_53) w K) w fun t_60 w =>
  bindS (vN (Instr.loadAt 3 t_57)) fun m_63 => gate (some (t_49, true)) (fun K => ldv prog (Instr.loadAt 3 t_57) w K) w fun t_62 w =>
  gate (some (t_49, true)) (fun K => pvv prog (binOp .add 3 t_62 t_59) w K) w fun t_64 w =>
  gate (some (t_49, true)) (fun K => pvv prog (binOp .sub 3 t_64 (.int .i64 4)) w K) w fun t_65 w =>
  gate (some (t_49, true)) (fun K => pvv prog (binOp .leq 3 t_60 t_65) w K) w fun t_66 w =>
  pv prog (oPick t_49 t_66 (.bool false)) w fun t_67 w =>
  dr w fun w =>
  pvv prog (Op.unary .not t_67) w fun t_68 w =>
  gate (some (t_68, false)) (fun K => K rows_p0 w) w fun t_69 w =>
  gate (some (t_68, false)) (fun K => pvv prog (Instr.indexAt 37 t_69 (.int .i64 1)) w K) w fun t_70 w =>
  gate (some (t_68, false)) (fun K => K t_0 w) w fun t_71 w =>
  gate (some (t_68, false)) (fun K => pv prog (oNil t_71) w K) w fun t_72 w =>
  gate (some (t_68, false)) (fun K => pvv prog (Instr.fieldAt 69 t_72 1) w K) w fun t_73 w =>
  gate (some (t_68, false)) (fun K => pvv prog (Instr.fieldAt 66 t_73 1) w K) w fun t_74 w =>
  bindS (vN (Instr.loadAt 41 t_70)) fun m_76 => gate (some (t_68, false)) (fun K => ldv prog (Instr.loadAt 41 t_70) w K) w fun t_75 w =>
  gate (some (t_68, false)) (fun K => Calls prog 36 #[t_75, (.string ⟨#[97]⟩), t_74] w (Ret fun s_211 w => K s_211 w)) w fun t_77 w =>
  gate (some (t_68, false)) (fun K => pvv prog (Op.unary .not t_77) w K) w fun t_78 w =>
  pv prog (oPick t_68 (.bool true) t_78) w fun t_79 w =>
  gate (some (t_79, false)) (fun K => K rows_p0 w) w fun t_80 w =>
  gate (some (t_79, false)) (fun K => pvv prog (Instr.indexAt 37 t_80 (.int .i64 2)) w K) w fun t_81 w =>
  gate (some (t_79, false)) (fun K => K t_0 w) w fun t_82 w =>
  gate (some (t_79, false)) (fun K => pv prog (oNil t_82) w K) w fun t_83 w =>
  gate (some (t_79, false)) (fun K => pvv prog (Instr.fieldAt 69 t_83 0) w K) w fun t_84 w =>
  gate (some (t_79, false)) (fun K => pvv prog (Instr.fieldAt 66 t_84 1) w K) w fun t_85 w =>
  bindS (vN (Instr.loadAt 41 t_81)) fun m_87 => gate (some (t_79, false)) (fun K => ldv prog (Instr.loadAt 41 t_81) w K) w fun t_86 w =>
  gate (some (t_79, false)) (fun K => Calls prog 36 #[t_86, (.string ⟨#[98]⟩), t_85] w (Ret fun s_210 w => stay prog (some (t_68, false)) m_76 t_75 w <| K s_210 w)) w fun t_88 w =>
  gate (some (t_79, false)) (fun K => pvv prog (Op.unary .not t_88) w K) w fun t_89 w =>
  pv prog (oPick t_79 (.bool true) t_89) w fun t_90 w =>
  gate (some (t_90, false)) (fun K => K rows_p0 w) w fun t_91 w =>
  gate (some (t_90, false)) (fun K => pvv prog (Instr.indexAt 37 t_91 (.int .i64 3)) w K) w fun t_92 w =>
  gate (some (t_90, false)) (fun K => K t_0 w) w fun t_93 w =>
  gate (some (t_90, false)) (fun K => pv prog (oNil t_93) w K) w fun t_94 w =>
  gate (some (t_90, false)) (fun K => pvv prog (Instr.fieldAt 69 t_94 2) w K) w fun t_95 w =>
  bindS (vN (Instr.loadAt 41 t_92)) fun m_97 => gate (some (t_90, false)) (fun K => ldv prog (Instr.loadAt 41 t_92) w K) w fun t_96 w =>
  gate (some (t_90, false)) (fun K => Calls prog 36 #[t_96, (.string ⟨#[104]⟩), t_95] w (Ret fun s_209 w => stay prog (some (t_79, false)) m_87 t_86 w <| stay prog (some (t_68, false)) m_76 t_75 w <| K s_209 w)) w fun t_98 w =>
  gate (some (t_90, false)) (fun K => pvv prog (Op.unary .not t_98) w K) w fun t_99 w =>
  pv prog (oPick t_90 (.bool true) t_99) w fun t_100 w =>
  cd t_100 (
    K (.tuple #[(.pointer none), (.int .i64 3)]) w) <|
  pvv prog (Instr.sliceAt 37 rows_p0 (some (.int .i64 4)) none none) w fun t_101 w =>
  pv prog (oBi .len #[37] 3 #[false] #[t_101]) w fun t_102 w =>
  lp (fun σ w again_105 => pop σ fun before_103 σ => pop σ fun t_104 σ => fin σ <|
    pvv prog (binOp .lss 3 t_104 t_102) w fun t_106 w =>
    cd t_106 (
      pvv prog (Instr.indexAt 37 t_101 t_104) w fun t_107 w =>
      ldv prog (Instr.loadAt 41 t_107) w fun t_108 w =>
      efv prog (Instr.alloc 41 true (.tuple #[])) w fun r_109 w =>
      efu prog (Instr.storeAt 41 r_109 t_108) w fun u_110 w =>
      pv prog (oNil t_0) w fun t_111 w =>
      pvv prog (Instr.fieldAt 69 t_111 0) w fun t_112 w =>
      pvv prog (Instr.fieldAt 66 t_112 0) w fun t_113 w =>
      ldv prog (Instr.loadAt 3 t_113) w fun t_114 w =>
      pvv prog (binOp .add 3 t_114 t_104) w fun t_115 w =>
      pvv prog (binOp .add 3 t_115 (.int .i64 1)) w fun t_116 w =>
      pvv prog (Instr.build 31 #[(0, t_116)]) w fun t_117 w =>
      efv prog (Instr.alloc 31 true (.tuple #[])) w fun x_118 w =>
      efu prog (Instr.storeAt 31 x_118 t_117) w fun u_119 w =>
      dr w fun w =>
      pvv prog (Instr.fieldAt 41 r_109 0) w fun t_120 w =>
      pvv prog (Instr.fieldAt 31 x_118 0) w fun t_121 w =>
      bindS (vN (Instr.loadAt 9 t_120)) fun m_123 => ldv prog (Instr.loadAt 9 t_120) w fun t_122 w =>
      bindS (vN (Instr.loadAt 3 t_121)) fun m_125 => ldv prog (Instr.loadAt 3 t_121) w fun t_124 w =>
      Calls prog 30 #[t_124] w (Ret fun t_126 w => stay prog none m_123 t_122 w <| 
      pvv prog (binOp .add 9 (.string ⟨#[110]⟩) t_126) w fun t_127 w =>
      pvv prog (oEq .neq 9 (.tmp 131) (.tmp 135) t_122 t_127) w fun t_128 w =>
      gate (some (t_128, false)) (fun K => pvv prog (Instr.fieldAt 41 r_109 1) w K) w fun t_129 w =>
      bindS (vN (Instr.loadAt 39 t_129)) fun m_131 => gate (some (t_128, false)) (fun K => ldv prog (Instr.loadAt 39 t_129) w K) w fun t_130 w =>
      gate (some (t_128, false)) (fun K => pv prog (oBi .len #[39] 3 #[false] #[t_130]) w K) w fun t_132 w =>
      gate (some (t_128, false)) (fun K => pvv prog (oEq .neq 3 (.tmp 140) (.const (.int .i64 3)) t_132 (.int .i64 3)) w K) w fun t_133 w =>
      pv prog (oPick t_128 (.bool true) t_133) w fun t_134 w =>
      gate (some (t_134, false)) (fun K => pvv prog (Instr.fieldAt 41 r_109 1) w K) w fun t_135 w =>
      gate (some (t_134, false)) (fun K => pvv prog (Instr.fieldAt 31 x_118 1) w K) w fun t_136 w =>
      bindS (vN (Instr.loadAt 39 t_135)) fun m_138 => gate (some (t_134, false)) (fun K => ldv prog (Instr.loadAt 39 t_135) w K) w fun t_137 w =>
      gate (some (t_134, false)) (fun K => pvv prog (Instr.sliceAt 39 t_137 none (some (.int .i64 1)) none) w K) w fun t_139 w =>
      gate (some (t_134, false)) (fun K => efv prog (Instr.buildSlice 133 1 #[(0, t_136)]) w fun s_207 w => stay prog (some (t_134, false)) m_138 t_137 w <| stay prog (some (t_128, false)) m_131 t_130 w <| stay prog none m_125 t_124 w <| stay prog none m_123 t_122 w <| K s_207 w) w fun t_140 w =>
      gate (some (t_134, false)) (fun K => Calls prog 35 #[t_139, t_140] w (Ret fun s_206 w => stay prog (some (t_134, false)) m_138 t_137 w <| stay prog (some (t_128, false)) m_131 t_130 w <| stay prog none m_125 t_124 w <| stay prog none m_123 t_122 w <| K s_206 w)) w fun t_141 w =>
      gate (some (t_134, false)) (fun K => pvv prog (Op.unary .not t_141) w K) w fun t_142 w =>
      pv prog (oPick t_134 (.bool true) t_142) w fun t_143 w =>
      cd t_143 (
        K (.tuple #[(.pointer none), (.int .i64 3)]) w) <|
      dr w fun w =>
      pvv prog (Instr.fieldAt 41 r_109 1) w fun t_144 w =>
      pvv prog (Instr.fieldAt 41 r_109 1) w fun t_145 w =>
      bindS (vN (Instr.loadAt 39 t_144)) fun m_147 => ldv prog (Instr.loadAt 39 t_144) w fun t_146 w =>
      pvv prog (Instr.indexAt 39 t_146 (.int .i64 1)) w fun t_148 w =>
      bindS (vN (Instr.loadAt 9 t_148)) fun m_150 => ldv prog (Instr.loadAt 9 t_148) w fun t_149 w =>
      bindS (vN (Instr.loadAt 39 t_145)) fun m_152 => ldv prog (Instr.loadAt 39 t_145) w fun t_151 w =>
      pvv prog (Instr.indexAt 39 t_151 (.int .i64 2)) w fun t_153 w =>
      bindS (vN (Instr.loadAt 9 t_153)) fun m_155 => ldv prog (Instr.loadAt 9 t_153) w fun t_154 w =>
      pvv prog (Instr.fieldAt 31 x_118 2) w fun t_156 w =>
      efu prog (Instr.storeAt 9 t_156 t_149) w fun u_157 w => stay prog none m_152 t_151 w <| 
      pvv prog (Instr.fieldAt 31 x_118 3) w fun t_158 w =>
      efu prog (Instr.storeAt 9 t_158 t_154) w fun u_159 w =>
      dr w fun w =>
      pvv prog (Instr.fieldAt 31 x_118 2) w fun t_160 w =>
      bindS (vN (Instr.loadAt 9 t_160)) fun m_162 => ldv prog (Instr.loadAt 9 t_160) w fun t_161 w =>
      pv prog (oBi .len #[9] 3 #[false] #[t_161]) w fun t_163 w =>
      pvv prog (binOp .gtr 3 t_163 (.int .i64 12)) w fun t_164 w =>
      gate (some (t_164, false)) (fun K => pvv prog (Instr.fieldAt 31 x_118 3) w K) w fun t_165 w =>
      bindS (vN (Instr.loadAt 9 t_165)) fun m_167 => gate (some (t_164, false)) (fun K => ldv prog (Instr.loadAt 9 t_165) w K) w fun t_166 w =>
      gate (some (t_164, false)) (fun K => pv prog (oBi .len #[9] 3 #[false] #[t_166]) w K) w fun t_168 w =>
      gate (some (t_164, false)) (fun K => pvv prog (binOp .gtr 3 t_168 (.int .i64 30)) w K) w fun t_169 w =>
      pv prog (oPick t_164 (.bool true) t_169) w fun t_170 w =>
      gate (some (t_170, false)) (fun K => pvv prog (Instr.fieldAt 31 x_118 1) w K) w fun t_171 w =>
      gate (some (t_170, false)) (fun K => K before_103 w) w fun t_172 w =>
      bindS (vN (Instr.loadAt 3 t_171)) fun m_174 => gate (some (t_170, false)) (fun K => ldv prog (Instr.loadAt 3 t_171) w K) w fun t_173 w =>
      gate (some (t_170, false)) (fun K => pvv prog (binOp .lss 3 t_173 t_172) w K) w fun t_175 w =>
      pv prog (oPick t_170 (.bool true) t_175) w fun t_176 w =>
      gate (some (t_176, false)) (fun K => pvv prog (Instr.fieldAt 31 x_118 1) w K) w fun t_177 w =>
      gate (some (t_176, false)) (fun K => K t_0 w) w fun t_178 w =>
      gate (some (t_176, false)) (fun K => pv prog (oNil t_178) w K) w fun t_179 w =>
      gate (some (t_176, false)) (fun K => pvv prog (Instr.fieldAt 69 t_179 3) w K) w fun t_180 w =>
      bindS (vN (Instr.loadAt 3 t_177)) fun m_182 => gate (some (t_176, false)) (fun K => ldv prog (Instr.loadAt 3 t_177) w K) w fun t_181 w =>
      bindS (vN (Instr.loadAt 3 t_180)) fun m_184 => gate (some (t_176, false)) (fun K => ldv prog (Instr.loadAt 3 t_180) w K) w fun t_183 w =>
      gate (some (t_176, false)) (fun K => pvv prog (binOp .gtr 3 t_181 t_183) w K) w fun t_185 w =>
      pv prog (oPick t_176 (.bool true) t_185) w fun t_186 w =>
      cd t_186 (
        K (.tuple #[(.pointer none), (.int .i64 3)]) w) <|
      pvv prog (Instr.fieldAt 31 x_118 1) w fun t_187 w =>
      ldv prog (Instr.loadAt 3 t_187) w fun t_188 w =>
      dr w fun w =>
      pv prog (oNil t_0) w fun t_189 w =>
      pvv prog (Instr.fieldAt 69 t_189 4) w fun t_190 w =>
      bindS (vN (Instr.loadAt 67 t_190)) fun m_192 => ldv prog (Instr.loadAt 67 t_190) w fun t_191 w =>
      bindS (vN (Instr.loadAt 31 x_118)) fun m_194 => ldv prog (Instr.loadAt 31 x_118) w fun t_193 w =>
      efv prog (Instr.buildSlice 67 1 #[(0, t_193)]) w fun t_195 w => stay prog none m_192 t_191 w <| 
      ef prog (oBi .append #[67, 67] 67 #[false, false] #[t_191, t_195]) w fun t_196 w => stay prog none m_194 t_193 w <| 
      pv prog (oNil t_0) w fun t_197 w =>
      pvv prog (Instr.fieldAt 69 t_197 4) w fun t_198 w =>
      efu prog (Instr.storeAt 67 t_198 t_196) w fun u_199 w =>
      pvv prog (binOp .add 3 t_104 (.int .i64 1)) w fun t_200 w =>
      again_105 [t_188, t_200] w)) <|
    K (.tuple #[t_0, (.int .i64 0)]) w) [(.int .i64 0), (.int .i64 0)] w)
theorem B13_eq (rows_p0 : Value) (w : World) (K : Value → World → Prop) : denFn prog Tryz.f13 T13 [rows_p0] w K = B13 rows_p0 w K := by kernel_rfl
theorem c13 {rows_p0 : Value} {w : World} {K : Value → World → Prop} (h : B13 rows_p0 w K) : Calls prog 13 #[rows_p0] w (Ret K) :=
  denFn_calls Tryz.func13 T13_ok (Eq.mpr (B13_eq rows_p0 w K) h)

-- 3 holdfast/holdfasttop.TopChained
def T3 : Ann := (.seq .none (.seq .none (.seq .none (.seq (.seq .none (.seq (.seq .none .none) .none)) (.seq (.seq .none (.block (.loop 9223371899415823248 [7] (.seq (.seq .none (.seq .none .none)) (.seq (.block (.seq .none (.seq .none (.seq (.seq .none .none) .none)))) .none))))) (.seq .none (.seq .none (.seq .none (.seq (.seq .none (.block (.loop 170141183460469231584113351126208738320 [10, 12] (.seq (.seq .none (.seq .none .none)) (.seq (.block (.seq .none (.seq (.seq .none (.block (.loop 10633823966278722520320649167656435728 [14] (.seq (.seq .none (.seq .none .none)) (.seq (.block (.seq .none (.seq .none (.seq (.seq .none (.seq (.seq .none .none) .none)) .none)))) .none))))) .none))) .none))))) (.seq .none (.seq (.seq .none (.seq (.seq .none .none) .none)) (.seq .none (.seq .none (.seq (.draw [.op 0 .pure, .op 1 .pure, .op 2 .pure, .op 3 .pure, .op 5 .pure, .op 6 .pure, .op 7 .pure, .op 8 .pure, .op 4 .eff, .op 9 .eff, .op 10 .pure]) (.seq .none (.seq .none .none))))))))))))))))
theorem T3_ok : chkFn prog Tryz.f3 T3 = true := by kernel_rfl
def B3 (l_p0 k_p1 : Value) (w : World) (K : Value → World → Prop) : Prop :=
  Calls prog 5 #[] w (Ret fun t_0 w =>
  efv prog (Instr.buildSlice 22 1 #[(0, (.int .u8 114))]) w fun t_1 w =>
  efv prog (convert 22 22 t_1) w fun t_2 w =>
  Calls prog 7 #[t_2] w (Ret fun t_3 w =>
  Calls prog 6 #[t_3] w (Ret fun t_4 w =>
  pvv prog (oEq .eql 23 (.tmp 31) (.const (.pointer none)) t_0 (.pointer none)) w fun t_5 w =>
  gate (some (t_5, false)) (fun K => K t_4 w) w fun t_6 w =>
  gate (some (t_5, false)) (fun K => pvv prog (oEq .eql 25 (.tmp 34) (.const (.pointer none)) t_6 (.pointer none)) w K) w fun t_7 w =>
  pv prog (oPick t_5 (.bool true) t_7) w fun t_8 w =>
  cd t_8 (
    K (.bool false) w) <|
  lp (fun σ w again_10 => pop σ fun i_9 σ => fin σ <|
    pv prog (oBi .len #[22] 3 #[false] #[l_p0]) w fun t_11 w =>
    pvv prog (binOp .lss 3 i_9 t_11) w fun t_12 w =>
    gate (some (t_12, true)) (fun K => K i_9 w) w fun t_13 w =>
    gate (some (t_12, true)) (fun K => pvv prog (binOp .lss 3 t_13 (.int .i64 20)) w K) w fun t_14 w =>
    pv prog (oPick t_12 t_14 (.bool false)) w fun t_15 w =>
    cd t_15 (
      pvv prog (Instr.indexAt 22 l_p0 i_9) w fun t_16 w =>
      ldv prog (Instr.loadAt 5 t_16) w fun t_17 w =>
      pvv prog (binOp .rem 5 t_17 (.int .u8 26)) w fun t_18 w =>
      pvv prog (binOp .add 5 (.int .u8 97) t_18) w fun t_19 w =>
      efv prog (Instr.buildSlice 22 1 #[(0, t_19)]) w fun t_20 w =>
      efv prog (convert 22 9 t_20) w fun t_21 w =>
      Calls prog 8 #[t_0, i_9, t_21, (.string ⟨#[119]⟩)] w (Ret fun t_22 w =>
      pvv prog (Instr.extract t_22 0) w fun t_23 w =>
      pvv prog (Instr.extract t_22 1) w fun t_24 w =>
      efv prog (Instr.alloc 31 true (.tuple #[])) w fun t_25 w =>
      efu prog (Instr.storeAt 31 t_25 t_23) w fun u_26 w =>
      pvv prog (oEq .neq 32 (.tmp 61) (.const (.int .i64 0)) t_24 (.int .i64 0)) w fun t_27 w =>
      cd t_27 (
        K (.bool false) w) <|
      pvv prog (binOp .add 3 i_9 (.int .i64 1)) w fun t_28 w =>
      again_10 [t_28] w)) <|
    Calls prog 9 #[t_0] w (Ret fun t_29 w =>
    Calls prog 10 #[t_0] w (Ret fun t_30 w =>
    lp (fun σ w again_33 => pop σ fun back_31 σ => pop σ fun i_32 σ => fin σ <|
      pv prog (oBi .len #[37] 3 #[false] #[t_30]) w fun t_34 w =>
      pvv prog (binOp .lss 3 i_32 t_34) w fun t_35 w =>
      cd t_35 (
        pvv prog (Instr.indexAt 37 t_30 i_32) w fun t_36 w =>
        pvv prog (Instr.fieldAt 41 t_36 0) w fun t_37 w =>
        ldv prog (Instr.loadAt 9 t_37) w fun t_38 w =>
        pvv prog (Instr.build 41 #[(0, t_38)]) w fun t_39 w =>
        efv prog (Instr.alloc 41 true (.tuple #[])) w fun x_40 w =>
        efu prog (Instr.storeAt 41 x_40 t_39) w fun u_41 w =>
        lp (fun σ w again_43 => pop σ fun j_42 σ => fin σ <|
          pvv prog (Instr.indexAt 37 t_30 i_32) w fun t_44 w =>
          pvv prog (Instr.fieldAt 41 t_44 1) w fun t_45 w =>
          ldv prog (Instr.loadAt 39 t_45) w fun t_46 w =>
          pv prog (oBi .len #[39] 3 #[false] #[t_46]) w fun t_47 w =>
          pvv prog (binOp .lss 3 j_42 t_47) w fun t_48 w =>
          cd t_48 (
            pvv prog (Instr.indexAt 37 t_30 i_32) w fun t_49 w =>
            pvv prog (Instr.fieldAt 41 t_49 1) w fun t_50 w =>
            ldv prog (Instr.loadAt 39 t_50) w fun t_51 w =>
            pvv prog (Instr.indexAt 39 t_51 j_42) w fun t_52 w =>
            ldv prog (Instr.loadAt 9 t_52) w fun t_53 w =>
            efv prog (convert 9 22 t_53) w fun t_54 w =>
            Calls prog 11 #[t_4, (.string ⟨#[116]⟩), (.string ⟨#[97, 117, 100, 105, 116]⟩), t_54] w (Ret fun t_55 w =>
            pvv prog (Instr.extract t_55 0) w fun t_56 w =>
            pvv prog (Instr.extract t_55 1) w fun t_57 w =>
            Calls prog 12 #[t_4, (.string ⟨#[116]⟩), (.string ⟨#[97, 117, 100, 105, 116]⟩), t_56] w (Ret fun t_58 w =>
            pvv prog (Instr.extract t_58 0) w fun t_59 w =>
            pvv prog (Instr.extract t_58 1) w fun t_60 w =>
            pvv prog (Instr.extract t_58 2) w fun t_61 w =>
            pvv prog (oEq .neq 32 (.tmp 110) (.const (.int .i64 0)) t_57 (.int .i64 0)) w fun t_62 w =>
            gate (some (t_62, false)) (fun K => K t_61 w) w fun t_63 w =>
            gate (some (t_62, false)) (fun K => pvv prog (oEq .neq 32 (.tmp 113) (.const (.int .i64 0)) t_63 (.int .i64 0)) w K) w fun t_64 w =>
            pv prog (oPick t_62 (.bool true) t_64) w fun t_65 w =>
            cd t_65 (
              K (.bool false) w) <|
            pvv prog (Instr.fieldAt 41 x_40 1) w fun t_66 w =>
            ldv prog (Instr.loadAt 39 t_66) w fun t_67 w =>
            efv prog (convert 22 9 t_59) w fun t_68 w =>
            efv prog (Instr.buildSlice 39 1 #[(0, t_68)]) w fun t_69 w =>
            ef prog (oBi .append #[39, 39] 39 #[false, false] #[t_67, t_69]) w fun t_70 w =>
            pvv prog (Instr.fieldAt 41 x_40 1) w fun t_71 w =>
            efu prog (Instr.storeAt 39 t_71 t_70) w fun u_72 w =>
            pvv prog (binOp .add 3 j_42 (.int .i64 1)) w fun t_73 w =>
            again_43 [t_73] w))) <|
          ldv prog (Instr.loadAt 41 x_40) w fun t_74 w =>
          efv prog (Instr.buildSlice 37 1 #[(0, t_74)]) w fun t_75 w =>
          ef prog (oBi .append #[37, 37] 37 #[false, false] #[back_31, t_75]) w fun t_76 w =>
          pvv prog (binOp .add 3 i_32 (.int .i64 1)) w fun t_77 w =>
          again_33 [t_76, t_77] w) [(.int .i64 0)] w) <|
      Calls prog 13 #[back_31] w (Ret fun t_78 w =>
      pvv prog (Instr.extract t_78 0) w fun t_79 w =>
      pvv prog (Instr.extract t_78 1) w fun t_80 w =>
      pvv prog (oEq .neq 32 (.tmp 132) (.const (.int .i64 0)) t_80 (.int .i64 0)) w fun t_81 w =>
      gate (some (t_81, false)) (fun K => K t_79 w) w fun t_82 w =>
      gate (some (t_81, false)) (fun K => Calls prog 14 #[t_82] w (Ret K)) w fun t_83 w =>
      gate (some (t_81, false)) (fun K => pvv prog (oEq .neq 32 (.tmp 136) (.const (.int .i64 0)) t_83 (.int .i64 0)) w K) w fun t_84 w =>
      pv prog (oPick t_81 (.bool true) t_84) w fun t_85 w =>
      gate (some (t_85, false)) (fun K => K t_79 w) w fun t_86 w =>
      gate (some (t_85, false)) (fun K => Calls prog 15 #[t_86] w (Ret K)) w fun t_87 w =>
      gate (some (t_85, false)) (fun K => K t_0 w) w fun t_88 w =>
      gate (some (t_85, false)) (fun K => Calls prog 15 #[t_88] w (Ret K)) w fun t_89 w =>
      gate (some (t_85, false)) (fun K => pvv prog (oEq .neq 28 (.tmp 141) (.tmp 143) t_87 t_89) w K) w fun t_90 w =>
      pv prog (oPick t_85 (.bool true) t_90) w fun t_91 w =>
      cd t_91 (
        K (.bool false) w) <|
      pvv prog (convert 5 3 k_p1) w fun t_92 w =>
      pv prog (oBi .len #[37] 3 #[false] #[back_31]) w fun t_93 w =>
      pvv prog (binOp .rem 3 t_92 t_93) w fun t_94 w =>
      dr w fun w =>
      pvv prog (Instr.sliceAt 37 back_31 none (some t_94) none) w fun t_95 w =>
      pvv prog (binOp .add 3 t_94 (.int .i64 1)) w fun t_96 w =>
      pvv prog (Instr.sliceAt 37 back_31 (some t_96) none none) w fun t_97 w =>
      ef prog (oBi .append #[37, 37] 37 #[false, false] #[(.slice none 0 0), t_95]) w fun t_98 w =>
      ef prog (oBi .append #[37, 37] 37 #[false, false] #[t_98, t_97]) w fun t_99 w =>
      Calls prog 13 #[t_99] w (Ret fun t_100 w =>
      pvv prog (Instr.extract t_100 0) w fun t_101 w =>
      pvv prog (Instr.extract t_100 1) w fun t_102 w =>
      pvv prog (oEq .eql 32 (.tmp 166) (.const (.int .i64 3)) t_102 (.int .i64 3)) w fun t_103 w =>
      K t_103 w))) [(.slice none 0 0), (.int .i64 0)] w))) [(.int .i64 0)] w)))
theorem B3_eq (l_p0 k_p1 : Value) (w : World) (K : Value → World → Prop) : denFn prog Tryz.f3 T3 [l_p0, k_p1] w K = B3 l_p0 k_p1 w K := by kernel_rfl
theorem c3 {l_p0 k_p1 : Value} {w : World} {K : Value → World → Prop} (h : B3 l_p0 k_p1 w K) : Calls prog 3 #[l_p0, k_p1] w (Ret K) :=
  denFn_calls Tryz.func3 T3_ok (Eq.mpr (B3_eq l_p0 k_p1 w K) h)

-- 18 (*holdfast/cred.Book).Rows
def T18 : Ann := (.seq .none (.seq (.seq .none (.seq (.seq .none .none) .none)) (.seq .none (.seq (.seq .none (.block (.loop 4722366482869645148664 [3] (.seq .none (.seq (.seq .none .none) (.block (.seq .none (.seq .none (.seq (.draw [.op 0 .pure, .op 1 .pure, .op 2 .pure, .op 3 .pure, .op 5 .pure, .op 7 .pure, .op 10 .pure, .op 11 .pure, .op 14 .pure, .op 15 .pure, .op 6 .load, .op 8 .load, .op 12 .load, .op 16 .load, .par [⟨4, .eff, (some 31), []⟩, ⟨9, .eff, (some 36), []⟩, ⟨13, .eff, (some 40), []⟩, ⟨17, .eff, (some 44), []⟩], .op 18 .eff, .op 19 .pure, .op 20 .eff, .op 21 .eff, .op 22 .pure]) (.seq .none (.block (.loop 4722361979270017843592 [3, 52] (.seq .none (.seq (.seq .none .none) (.seq (.block (.seq .none .none)) .none))))))))))))))) (.seq .none (.seq .none .none))))))
theorem T18_ok : chkFn prog Tryz.f18 T18 = true := by kernel_rfl
def B18 (b_p0 : Value) (w : World) (K : Value → World → Prop) : Prop :=
  pvv prog (oEq .eql 51 (.tmp 9) (.const (.pointer none)) b_p0 (.pointer none)) w fun t_0 w =>
  cd t_0 (
    K (.slice none 0 0) w) <|
  pv prog (oNil b_p0) w fun t_1 w =>
  pvv prog (Instr.fieldAt 100 t_1 0) w fun t_2 w =>
  ldv prog (Instr.loadAt 98 t_2) w fun t_3 w =>
  efv prog (Instr.range 98 t_3) w fun t_4 w =>
  lp (fun σ w again_6 => pop σ fun out_5 σ => fin σ <|
    efv prog (Instr.next t_4 false 0) w fun t_7 w =>
    pvv prog (Instr.extract t_7 0) w fun t_8 w =>
    cd t_8 (
      efv prog (Instr.entry t_4) w fun t_9 w =>
      pvv prog (Instr.extract t_9 0) w fun t_10 w =>
      pvv prog (Instr.extract t_9 1) w fun t_11 w =>
      efv prog (Instr.alloc 54 true (.tuple #[])) w fun o_12 w =>
      efv prog (Instr.alloc 105 true (.tuple #[])) w fun r_13 w =>
      efu prog (Instr.storeAt 54 o_12 t_10) w fun u_14 w =>
      efu prog (Instr.storeAt 105 r_13 t_11) w fun u_15 w =>
      pvv prog (Instr.fieldAt 54 o_12 0) w fun t_16 w =>
      ldv prog (Instr.loadAt 9 t_16) w fun t_17 w =>
      pvv prog (binOp .add 9 t_17 (.string ⟨#[47]⟩)) w fun t_18 w =>
      pvv prog (Instr.fieldAt 54 o_12 1) w fun t_19 w =>
      ldv prog (Instr.loadAt 9 t_19) w fun t_20 w =>
      pvv prog (binOp .add 9 t_18 t_20) w fun t_21 w =>
      dr w fun w =>
      pvv prog (Instr.fieldAt 105 r_13 1) w fun t_22 w =>
      pvv prog (Instr.sliceAt 28 t_22 none none none) w fun t_23 w =>
      pvv prog (Instr.fieldAt 105 r_13 2) w fun t_24 w =>
      pvv prog (Instr.fieldAt 105 r_13 3) w fun t_25 w =>
      pvv prog (Instr.fieldAt 105 r_13 0) w fun t_26 w =>
      pvv prog (Instr.fieldAt 102 t_26 0) w fun t_27 w =>
      pvv prog (Instr.fieldAt 105 r_13 0) w fun t_28 w =>
      pvv prog (Instr.fieldAt 102 t_28 1) w fun t_29 w =>
      bindS (vN (Instr.loadAt 9 t_24)) fun m_31 => ldv prog (Instr.loadAt 9 t_24) w fun t_30 w =>
      bindS (vN (Instr.loadAt 3 t_25)) fun m_33 => ldv prog (Instr.loadAt 3 t_25) w fun t_32 w =>
      bindS (vN (Instr.loadAt 3 t_27)) fun m_35 => ldv prog (Instr.loadAt 3 t_27) w fun t_34 w =>
      bindS (vN (Instr.loadAt 3 t_29)) fun m_37 => ldv prog (Instr.loadAt 3 t_29) w fun t_36 w =>
      par 4 w fun J_38 =>
        (∀ (σ : List (Option Value)) (w : World), J_38 σ w → un σ 0 (efv prog (convert 22 9 t_23) w fun v_39 w => stay prog none m_37 t_36 w <| stay prog none m_35 t_34 w <| stay prog none m_33 t_32 w <| stay prog none m_31 t_30 w <| J_38 (σ.set 0 (some v_39)) w)) ∧
        (∀ (σ : List (Option Value)) (w : World), J_38 σ w → un σ 1 (Calls prog 40 #[t_32] w (Ret fun v_40 w => stay prog none m_37 t_36 w <| stay prog none m_35 t_34 w <| stay prog none m_31 t_30 w <| J_38 (σ.set 1 (some v_40)) w))) ∧
        (∀ (σ : List (Option Value)) (w : World), J_38 σ w → un σ 2 (Calls prog 40 #[t_34] w (Ret fun v_41 w => stay prog none m_37 t_36 w <| stay prog none m_33 t_32 w <| stay prog none m_31 t_30 w <| J_38 (σ.set 2 (some v_41)) w))) ∧
        (∀ (σ : List (Option Value)) (w : World), J_38 σ w → un σ 3 (Calls prog 40 #[t_36] w (Ret fun v_42 w => stay prog none m_35 t_34 w <| stay prog none m_33 t_32 w <| stay prog none m_31 t_30 w <| J_38 (σ.set 3 (some v_42)) w))) ∧
        ∀ (σ : List (Option Value)) (w : World), J_38 σ w → is σ 0 fun t_43 => is σ 1 fun t_44 => is σ 2 fun t_45 => is σ 3 fun t_46 => 
        efv prog (Instr.buildSlice 39 5 #[(0, t_43), (1, t_30), (2, t_44), (3, t_45), (4, t_46)]) w fun t_47 w => stay prog none m_37 t_36 w <| stay prog none m_35 t_34 w <| stay prog none m_33 t_32 w <| 
        pvv prog (Instr.build 41 #[(0, t_21), (1, t_47)]) w fun t_48 w =>
        efv prog (Instr.buildSlice 37 1 #[(0, t_48)]) w fun t_49 w => stay prog none m_37 t_36 w <| stay prog none m_35 t_34 w <| stay prog none m_33 t_32 w <| stay prog none m_31 t_30 w <| 
        ef prog (oBi .append #[37, 37] 37 #[false, false] #[out_5, t_49]) w fun t_50 w => stay prog none m_37 t_36 w <| stay prog none m_35 t_34 w <| stay prog none m_33 t_32 w <| stay prog none m_31 t_30 w <| 
        pvv prog (Instr.fieldAt 105 r_13 4) w fun t_51 w =>
        ldv prog (Instr.loadAt 103 t_51) w fun t_52 w =>
        pv prog (oBi .len #[103] 3 #[false] #[t_52]) w fun t_53 w =>
        lp (fun σ w again_56 => pop σ fun out_54 σ => pop σ fun t_55 σ => fin σ <|
          pvv prog (binOp .lss 3 t_55 t_53) w fun t_57 w =>
          cd t_57 (
            pvv prog (Instr.indexAt 103 t_52 t_55) w fun t_58 w =>
            ldv prog (Instr.loadAt 28 t_58) w fun t_59 w =>
            efv prog (Instr.alloc 28 true (.tuple #[])) w fun c_60 w =>
            efu prog (Instr.storeAt 28 c_60 t_59) w fun u_61 w =>
            pvv prog (binOp .add 9 t_21 (.string ⟨#[47]⟩)) w fun t_62 w =>
            pvv prog (binOp .add 3 (.int .i64 49) t_55) w fun t_63 w =>
            pvv prog (convert 3 21 t_63) w fun t_64 w =>
            pvv prog (convert 21 9 t_64) w fun t_65 w =>
            pvv prog (binOp .add 9 t_62 t_65) w fun t_66 w =>
            pvv prog (Instr.sliceAt 28 c_60 none none none) w fun t_67 w =>
            efv prog (convert 22 9 t_67) w fun t_68 w =>
            efv prog (Instr.buildSlice 39 1 #[(0, t_68)]) w fun t_69 w =>
            pvv prog (Instr.build 41 #[(0, t_66), (1, t_69)]) w fun t_70 w =>
            efv prog (Instr.buildSlice 37 1 #[(0, t_70)]) w fun t_71 w =>
            ef prog (oBi .append #[37, 37] 37 #[false, false] #[out_54, t_71]) w fun t_72 w =>
            pvv prog (binOp .add 3 t_55 (.int .i64 1)) w fun t_73 w =>
            again_56 [t_72, t_73] w) <|
          again_6 [out_54] w) [t_50, (.int .i64 0)] w) <|
    Calls prog 41 #[out_5, (.func (.func 42) #[] #[])] w (Ret fun t_77 w =>
    K out_5 w)) [(.slice none 0 0)] w
theorem B18_eq (b_p0 : Value) (w : World) (K : Value → World → Prop) : denFn prog Tryz.f18 T18 [b_p0] w K = B18 b_p0 w K := by kernel_rfl
theorem c18 {b_p0 : Value} {w : World} {K : Value → World → Prop} (h : B18 b_p0 w K) : Calls prog 18 #[b_p0] w (Ret K) :=
  denFn_calls Tryz.func18 T18_ok (Eq.mpr (B18_eq b_p0 w K) h)

-- 8 (*holdfast/audit.Chain).Add
def T8 : Ann := (.seq .none (.seq (.block (.seq .none (.seq (.seq .none .none) (.seq .none (.seq (.seq .none .none) (.seq .none (.seq (.seq .none .none) (.seq .none (.seq (.seq .none .none) (.seq .none (.seq (.seq .none .none) .none))))))))))) (.seq .none (.seq (.draw [.op 0 .pure, .op 1 .pure, .op 2 .pure, .op 3 .pure, .op 5 .pure, .op 6 .pure, .op 7 .pure, .op 10 .pure, .op 11 .pure, .op 12 .pure, .op 4 .load, .op 8 .load, .op 9 .pure, .op 13 .load, .op 14 .pure, .op 15 .pure, .op 16 .load, .op 17 .eff, .op 18 .eff, .op 19 .pure, .op 20 .pure, .op 21 .eff]) (.seq (.draw [.op 0 .pure, .op 1 .pure, .op 2 .pure, .op 3 .pure, .op 4 .load, .op 5 .load, .op 6 .eff, .op 7 .pure, .op 8 .pure, .op 9 .eff]) (.seq .none (.seq .none .none)))))))
theorem T8_ok : chkFn prog Tryz.f8 T8 = true := by kernel_rfl
def B8 (c_p0 at_p1 what_p2 who_p3 : Value) (w : World) (K : Value → World → Prop) : Prop :=
  efv prog (Instr.alloc 31 true (.tuple #[])) w fun t_0 w =>
  pvv prog (oEq .eql 23 (.tmp 12) (.const (.pointer none)) c_p0 (.pointer none)) w fun t_1 w =>
  cd t_1 (
    pvv prog (Instr.build 31 #[]) w fun t_2 w =>
    efu prog (Instr.storeAt 31 t_0 t_2) w fun u_3 w =>
    ∃ r_4, (do loadVar 31 (← asAddr t_0)).run prog w = .ok r_4 w ∧ K (.tuple #[r_4, (.int .i64 1)]) w) <|
  pvv prog (binOp .lss 3 at_p1 (.int .i64 0)) w fun t_5 w =>
  gate (some (t_5, false)) (fun K => K at_p1 w) w fun t_6 w =>
  gate (some (t_5, false)) (fun K => pvv prog (binOp .gtr 3 t_6 (.int .i64 1099511627776)) w K) w fun t_7 w =>
  pv prog (oPick t_5 (.bool true) t_7) w fun t_8 w =>
  cd t_8 (
    pvv prog (Instr.build 31 #[]) w fun t_9 w =>
    efu prog (Instr.storeAt 31 t_0 t_9) w fun u_10 w =>
    ∃ r_11, (do loadVar 31 (← asAddr t_0)).run prog w = .ok r_11 w ∧ K (.tuple #[r_11, (.int .i64 2)]) w) <|
  pv prog (oBi .len #[9] 3 #[false] #[what_p2]) w fun t_12 w =>
  pvv prog (binOp .gtr 3 t_12 (.int .i64 12)) w fun t_13 w =>
  gate (some (t_13, false)) (fun K => K who_p3 w) w fun t_14 w =>
  gate (some (t_13, false)) (fun K => pv prog (oBi .len #[9] 3 #[false] #[t_14]) w K) w fun t_15 w =>
  gate (some (t_13, false)) (fun K => pvv prog (binOp .gtr 3 t_15 (.int .i64 30)) w K) w fun t_16 w =>
  pv prog (oPick t_13 (.bool true) t_16) w fun t_17 w =>
  cd t_17 (
    pvv prog (Instr.build 31 #[]) w fun t_18 w =>
    efu prog (Instr.storeAt 31 t_0 t_18) w fun u_19 w =>
    ∃ r_20, (do loadVar 31 (← asAddr t_0)).run prog w = .ok r_20 w ∧ K (.tuple #[r_20, (.int .i64 6)]) w) <|
  pv prog (oNil c_p0) w fun t_21 w =>
  pvv prog (Instr.fieldAt 69 t_21 3) w fun t_22 w =>
  ldv prog (Instr.loadAt 3 t_22) w fun t_23 w =>
  pvv prog (binOp .lss 3 at_p1 t_23) w fun t_24 w =>
  cd t_24 (
    pvv prog (Instr.build 31 #[]) w fun t_25 w =>
    efu prog (Instr.storeAt 31 t_0 t_25) w fun u_26 w =>
    ∃ r_27, (do loadVar 31 (← asAddr t_0)).run prog w = .ok r_27 w ∧ K (.tuple #[r_27, (.int .i64 9)]) w) <|
  pv prog (oNil c_p0) w fun t_28 w =>
  pvv prog (Instr.fieldAt 69 t_28 4) w fun t_29 w =>
  ldv prog (Instr.loadAt 67 t_29) w fun t_30 w =>
  pv prog (oBi .len #[67] 3 #[false] #[t_30]) w fun t_31 w =>
  pvv prog (binOp .geq 3 t_31 (.int .i64 64)) w fun t_32 w =>
  cd t_32 (
    pvv prog (Instr.build 31 #[]) w fun t_33 w =>
    efu prog (Instr.storeAt 31 t_0 t_33) w fun u_34 w =>
    ∃ r_35, (do loadVar 31 (← asAddr t_0)).run prog w = .ok r_35 w ∧ K (.tuple #[r_35, (.int .i64 26)]) w) <|
  Calls prog 27 #[c_p0] w (Ret fun t_36 w =>
  pvv prog (binOp .add 3 t_36 (.int .i64 1)) w fun t_37 w =>
  pvv prog (Instr.build 31 #[(0, t_37), (1, at_p1), (2, what_p2), (3, who_p3)]) w fun t_38 w =>
  efv prog (Instr.alloc 31 true (.tuple #[])) w fun x_39 w =>
  efu prog (Instr.storeAt 31 x_39 t_38) w fun u_40 w =>
  dr w fun w =>
  pv prog (oNil c_p0) w fun t_41 w =>
  pvv prog (Instr.fieldAt 69 t_41 4) w fun t_42 w =>
  pv prog (oNil c_p0) w fun t_43 w =>
  pvv prog (Instr.fieldAt 69 t_43 4) w fun t_44 w =>
  pv prog (oNil c_p0) w fun t_45 w =>
  pvv prog (Instr.fieldAt 69 t_45 4) w fun t_46 w =>
  bindS (vN (Instr.loadAt 67 t_42)) fun m_48 => ldv prog (Instr.loadAt 67 t_42) w fun t_47 w =>
  bindS (vN (Instr.loadAt 67 t_44)) fun m_50 => ldv prog (Instr.loadAt 67 t_44) w fun t_49 w =>
  pv prog (oBi .len #[67] 3 #[false] #[t_49]) w fun t_51 w =>
  bindS (vN (Instr.loadAt 67 t_46)) fun m_53 => ldv prog (Instr.loadAt 67 t_46) w fun t_52 w =>
  pv prog (oBi .len #[67] 3 #[false] #[t_52]) w fun t_54 w =>
  pvv prog (Instr.sliceAt 67 t_47 none (some t_51) (some t_54)) w fun t_55 w =>
  bindS (vN (Instr.loadAt 31 x_39)) fun m_57 => ldv prog (Instr.loadAt 31 x_39) w fun t_56 w =>
  efv prog (Instr.buildSlice 67 1 #[(0, t_56)]) w fun t_58 w => stay prog none m_53 t_52 w <| stay prog none m_50 t_49 w <| stay prog none m_48 t_47 w <| 
  ef prog (oBi .append #[67, 67] 67 #[false, false] #[t_55, t_58]) w fun t_59 w => stay prog none m_57 t_56 w <| stay prog none m_53 t_52 w <| stay prog none m_50 t_49 w <| stay prog none m_48 t_47 w <| 
  pv prog (oNil c_p0) w fun t_60 w =>
  pvv prog (Instr.fieldAt 69 t_60 4) w fun t_61 w =>
  efu prog (Instr.storeAt 67 t_61 t_59) w fun u_62 w =>
  dr w fun w =>
  pv prog (oNil c_p0) w fun t_63 w =>
  pvv prog (Instr.fieldAt 69 t_63 2) w fun t_64 w =>
  bindS (vN (Instr.loadAt 28 t_64)) fun m_66 => ldv prog (Instr.loadAt 28 t_64) w fun t_65 w =>
  bindS (vN (Instr.loadAt 31 x_39)) fun m_68 => ldv prog (Instr.loadAt 31 x_39) w fun t_67 w =>
  Calls prog 28 #[t_65, t_67] w (Ret fun t_69 w =>
  pv prog (oNil c_p0) w fun t_70 w =>
  pvv prog (Instr.fieldAt 69 t_70 2) w fun t_71 w =>
  efu prog (Instr.storeAt 28 t_71 t_69) w fun u_72 w =>
  pv prog (oNil c_p0) w fun t_73 w =>
  pvv prog (Instr.fieldAt 69 t_73 3) w fun t_74 w =>
  efu prog (Instr.storeAt 3 t_74 at_p1) w fun u_75 w =>
  ldv prog (Instr.loadAt 31 x_39) w fun t_76 w =>
  efu prog (Instr.storeAt 31 t_0 t_76) w fun u_77 w =>
  ∃ r_78, (do loadVar 31 (← asAddr t_0)).run prog w = .ok r_78 w ∧ K (.tuple #[r_78, (.int .i64 0)]) w))
theorem B8_eq (c_p0 at_p1 what_p2 who_p3 : Value) (w : World) (K : Value → World → Prop) : denFn prog Tryz.f8 T8 [c_p0, at_p1, what_p2, who_p3] w K = B8 c_p0 at_p1 what_p2 who_p3 w K := by kernel_rfl
theorem c8 {c_p0 at_p1 what_p2 who_p3 : Value} {w : World} {K : Value → World → Prop} (h : B8 c_p0 at_p1 what_p2 who_p3 w K) : Calls prog 8 #[c_p0, at_p1, what_p2, who_p3] w (Ret K) :=
  denFn_calls Tryz.func8 T8_ok (Eq.mpr (B8_eq c_p0 at_p1 what_p2 who_p3 w K) h)

-- 125 strings.Replace
def T125 : Ann := (.seq .none (.seq (.seq .none (.seq (.seq .none .none) .none)) (.meet 274861130504 [3] (.seq .none (.seq .none (.seq (.seq .none .none) (.seq .none (.seq .none .none))))) (.seq .none (.seq .none (.seq .none (.meet 633825300114114137798398244864 [11] (.seq .none (.seq (.seq .none (.block (.loop 18889456924279326119936 [11, 53] (.seq .none (.seq (.seq .none .none) (.seq (.block (.seq .none (.seq .none (.seq .none .none)))) .none)))))) (.seq .none (.seq .none (.block (.loop 633824997882659797091057985536 [11, 78] (.seq .none (.seq (.seq .none .none) (.seq (.block (.seq .none (.seq .none (.seq .none (.seq .none .none))))) .none))))))))) (.seq .none (.seq .none .none)))))))))
theorem T125_ok : chkFn prog Tryz.f125 T125 = true := by kernel_rfl
def B125 (s_p0 old_p1 new_p2 n_p3 : Value) (w : World) (K : Value → World → Prop) : Prop :=
  pvv prog (oEq .eql 9 (.tmp 16) (.tmp 17) old_p1 new_p2) w fun t_0 w =>
  gate (some (t_0, false)) (fun K => K n_p3 w) w fun t_1 w =>
  gate (some (t_0, false)) (fun K => pvv prog (oEq .eql 3 (.tmp 20) (.const (.int .i64 0)) t_1 (.int .i64 0)) w K) w fun t_2 w =>
  pv prog (oPick t_0 (.bool true) t_2) w fun t_3 w =>
  cd t_3 (
    K s_p0 w) <|
  jn (fun σ w => pop σ fun n_4 σ => fin σ <|
    efv prog (Instr.alloc 227 true (.tuple #[])) w fun b_5 w =>
    pv prog (oBi .len #[9] 3 #[false] #[s_p0]) w fun t_6 w =>
    pv prog (oBi .len #[9] 3 #[false] #[new_p2]) w fun t_7 w =>
    pv prog (oBi .len #[9] 3 #[false] #[old_p1]) w fun t_8 w =>
    pvv prog (binOp .sub 3 t_7 t_8) w fun t_9 w =>
    pvv prog (binOp .mul 3 n_4 t_9) w fun t_10 w =>
    pvv prog (binOp .add 3 t_6 t_10) w fun t_11 w =>
    Calls prog 155 #[b_5, t_11] w (Ret fun t_12 w =>
    jn (fun σ w => pop σ fun start_13 σ => fin σ <|
      pvv prog (Instr.sliceAt 9 s_p0 (some start_13) none none) w fun t_14 w =>
      Calls prog 156 #[b_5, t_14] w (Ret fun t_15 w =>
      Calls prog 157 #[b_5] w (Ret fun t_16 w =>
      K t_16 w))) fun k_17 =>
    pv prog (oBi .len #[9] 3 #[false] #[old_p1]) w fun t_18 w =>
    pvv prog (binOp .gtr 3 t_18 (.int .i64 0)) w fun t_19 w =>
    cd t_19 (
      lp (fun σ w again_22 => pop σ fun start_20 σ => pop σ fun t_21 σ => fin σ <|
        pvv prog (binOp .lss 3 t_21 n_4) w fun t_23 w =>
        cd t_23 (
          pvv prog (Instr.sliceAt 9 s_p0 (some start_20) none none) w fun t_24 w =>
          Calls prog 116 #[t_24, old_p1] w (Ret fun t_25 w =>
          pvv prog (binOp .add 3 start_20 t_25) w fun t_26 w =>
          pvv prog (Instr.sliceAt 9 s_p0 (some start_20) (some t_26) none) w fun t_27 w =>
          Calls prog 156 #[b_5, t_27] w (Ret fun t_28 w =>
          Calls prog 156 #[b_5, new_p2] w (Ret fun t_29 w =>
          pv prog (oBi .len #[9] 3 #[false] #[old_p1]) w fun t_30 w =>
          pvv prog (binOp .add 3 t_26 t_30) w fun t_31 w =>
          pvv prog (binOp .add 3 t_21 (.int .i64 1)) w fun t_32 w =>
          again_22 [t_31, t_32] w)))) <|
        k_17 [start_20] w) [(.int .i64 0), (.int .i64 0)] w) <|
    Calls prog 156 #[b_5, new_p2] w (Ret fun t_33 w =>
    pvv prog (binOp .sub 3 n_4 (.int .i64 1)) w fun t_34 w =>
    lp (fun σ w again_37 => pop σ fun start_35 σ => pop σ fun t_36 σ => fin σ <|
      pvv prog (binOp .lss 3 t_36 t_34) w fun t_38 w =>
      cd t_38 (
        pvv prog (Instr.sliceAt 9 s_p0 (some start_35) none none) w fun t_39 w =>
        Calls prog 122 #[t_39] w (Ret fun t_40 w =>
        pvv prog (Instr.extract t_40 0) w fun t_41 w =>
        pvv prog (Instr.extract t_40 1) w fun t_42 w =>
        pvv prog (binOp .add 3 start_35 t_42) w fun t_43 w =>
        pvv prog (Instr.sliceAt 9 s_p0 (some start_35) (some t_43) none) w fun t_44 w =>
        Calls prog 156 #[b_5, t_44] w (Ret fun t_45 w =>
        Calls prog 156 #[b_5, new_p2] w (Ret fun t_46 w =>
        pvv prog (binOp .add 3 t_36 (.int .i64 1)) w fun t_47 w =>
        again_37 [t_43, t_47] w)))) <|
      k_17 [start_35] w) [(.int .i64 0), (.int .i64 0)] w))) fun k_48 =>
  Calls prog 115 #[s_p0, old_p1] w (Ret fun t_49 w =>
  pvv prog (oEq .eql 3 (.tmp 27) (.const (.int .i64 0)) t_49 (.int .i64 0)) w fun t_50 w =>
  cd t_50 (
    K s_p0 w) <|
  pvv prog (binOp .lss 3 n_p3 (.int .i64 0)) w fun t_51 w =>
  gate (some (t_51, false)) (fun K => K t_49 w) w fun t_52 w =>
  gate (some (t_51, false)) (fun K => K n_p3 w) w fun t_53 w =>
  gate (some (t_51, false)) (fun K => pvv prog (binOp .lss 3 t_52 t_53) w K) w fun t_54 w =>
  pv prog (oPick t_51 (.bool true) t_54) w fun t_55 w =>
  cd t_55 (
    k_48 [t_49] w) <|
  k_48 [n_p3] w)
theorem B125_eq (s_p0 old_p1 new_p2 n_p3 : Value) (w : World) (K : Value → World → Prop) : denFn prog Tryz.f125 T125 [s_p0, old_p1, new_p2, n_p3] w K = B125 s_p0 old_p1 new_p2 n_p3 w K := by kernel_rfl
theorem c125 {s_p0 old_p1 new_p2 n_p3 : Value} {w : World} {K : Value → World → Prop} (h : B125 s_p0 old_p1 new_p2 n_p3 w K) : Calls prog 125 #[s_p0, old_p1, new_p2, n_p3] w (Ret K) :=
  denFn_calls Tryz.func125 T125_ok (Eq.mpr (B125_eq s_p0 old_p1 new_p2 n_p3 w K) h)

-- 80 slices.insertionSortCmpFunc[holdfast/api.Row]
def T80 : Ann := (.seq .none (.block (.loop 9007199254737664 [8] (.seq (.seq .none (.seq .none .none)) (.seq (.block (.seq .none (.block (.loop 9007199254479360 [9] (.seq (.seq (.draw [.op 0 .pure, .op 1 .pure, .op 2 .pure, .op 3 .pure, .op 4 .pure, .op 5 .pure, .op 6 .pure, .op 7 .pure, .op 9 .pure, .op 10 .pure, .op 11 .pure, .op 12 .pure, .op 8 .load, .op 13 .load, .op 14 .eff, .op 15 .pure, .op 16 .pure]) (.seq .none .none)) (.seq (.block (.draw [.op 0 .pure, .op 1 .pure, .op 2 .pure, .op 3 .pure, .op 4 .pure, .op 5 .pure, .op 6 .pure, .op 7 .pure, .op 8 .pure, .op 10 .pure, .op 11 .pure, .op 12 .pure, .op 9 .load, .op 13 .load, .op 14 .pure, .op 15 .eff, .op 16 .pure, .op 17 .eff])) .none)))))) .none)))))
theorem T80_ok : chkFn prog Tryz.f80 T80 = true := by kernel_rfl
def B80 (data_p0 a_p1 b_p2 cmp_p3 : Value) (w : World) (K : Value → World → Prop) : Prop :=
  pvv prog (binOp .add 3 a_p1 (.int .i64 1)) w fun t_0 w =>
  lp (fun σ w again_2 => pop σ fun i_1 σ => fin σ <|
    pvv prog (binOp .lss 3 i_1 b_p2) w fun t_3 w =>
    cd t_3 (
      lp (fun σ w again_5 => pop σ fun j_4 σ => fin σ <|
        dr w fun w =>
        pvv prog (binOp .gtr 3 j_4 a_p1) w fun t_6 w =>
        gate (some (t_6, true)) (fun K => K cmp_p3 w) w fun t_7 w =>
        gate (some (t_6, true)) (fun K => K data_p0 w) w fun t_8 w =>
        gate (some (t_6, true)) (fun K => K j_4 w) w fun t_9 w =>
        gate (some (t_6, true)) (fun K => pvv prog (Instr.indexAt 37 t_8 t_9) w K) w fun t_10 w =>
        gate (some (t_6, true)) (fun K => K data_p0 w) w fun t_11 w =>
        gate (some (t_6, true)) (fun K => K j_4 w) w fun t_12 w =>
        gate (some (t_6, true)) (fun K => pvv prog (binOp .sub 3 t_12 (.int .i64 1)) w K) w fun t_13 w =>
        gate (some (t_6, true)) (fun K => pvv prog (Instr.indexAt 37 t_11 t_13) w K) w fun t_14 w =>
        bindS (vN (Instr.loadAt 41 t_10)) fun m_16 => gate (some (t_6, true)) (fun K => ldv prog (Instr.loadAt 41 t_10) w K) w fun t_15 w =>
        bindS (vN (Instr.loadAt 41 t_14)) fun m_18 => gate (some (t_6, true)) (fun K => ldv prog (Instr.loadAt 41 t_14) w K) w fun t_17 w =>
        gate (some (t_6, true)) (fun K => ef prog (oCall t_7 #[t_15, t_17]) w fun s_38 w => K s_38 w) w fun t_19 w =>
        gate (some (t_6, true)) (fun K => pvv prog (binOp .lss 3 t_19 (.int .i64 0)) w K) w fun t_20 w =>
        pv prog (oPick t_6 t_20 (.bool false)) w fun t_21 w =>
        cd t_21 (
          dr w fun w =>
          pvv prog (binOp .sub 3 j_4 (.int .i64 1)) w fun t_22 w =>
          pvv prog (binOp .sub 3 j_4 (.int .i64 1)) w fun t_23 w =>
          pvv prog (Instr.indexAt 37 data_p0 t_23) w fun t_24 w =>
          pvv prog (Instr.indexAt 37 data_p0 j_4) w fun t_25 w =>
          bindS (vN (Instr.loadAt 41 t_24)) fun m_27 => ldv prog (Instr.loadAt 41 t_24) w fun t_26 w =>
          bindS (vN (Instr.loadAt 41 t_25)) fun m_29 => ldv prog (Instr.loadAt 41 t_25) w fun t_28 w =>
          pvv prog (Instr.indexAt 37 data_p0 j_4) w fun t_30 w =>
          efu prog (Instr.storeAt 41 t_30 t_26) w fun u_31 w =>
          pvv prog (Instr.indexAt 37 data_p0 t_22) w fun t_32 w =>
          efu prog (Instr.storeAt 41 t_32 t_28) w fun u_33 w =>
          pvv prog (binOp .sub 3 j_4 (.int .i64 1)) w fun t_34 w =>
          again_5 [t_34] w) <|
        pvv prog (binOp .add 3 i_1 (.int .i64 1)) w fun t_37 w =>
        again_2 [t_37] w) [i_1] w) <|
    K (.tuple #[]) w) [t_0] w
theorem B80_eq (data_p0 a_p1 b_p2 cmp_p3 : Value) (w : World) (K : Value → World → Prop) : denFn prog Tryz.f80 T80 [data_p0, a_p1, b_p2, cmp_p3] w K = B80 data_p0 a_p1 b_p2 cmp_p3 w K := by kernel_rfl
theorem c80 {data_p0 a_p1 b_p2 cmp_p3 : Value} {w : World} {K : Value → World → Prop} (h : B80 data_p0 a_p1 b_p2 cmp_p3 w K) : Calls prog 80 #[data_p0, a_p1, b_p2, cmp_p3] w (Ret K) :=
  denFn_calls Tryz.func80 T80_ok (Eq.mpr (B80_eq data_p0 a_p1 b_p2 cmp_p3 w K) h)

-- 12 (*holdfast/keys.Tree).Open
def T12 : Ann := (.seq .none (.seq .none (.meet 2130710528 [12] (.seq .none (.seq .none .none)) (.seq (.seq .none (.seq (.seq .none .none) .none)) (.seq .none (.seq .none (.seq (.seq .none (.seq (.seq .none .none) .none)) (.seq (.draw [.op 1 .pure, .op 2 .pure, .op 0 .load, .op 3 .eff, .op 4 .pure, .op 5 .pure, .op 6 .pure, .op 7 .pure, .op 8 .pure, .op 9 .pure, .op 10 .pure]) (.seq (.seq .none (.seq (.seq .none .none) .none)) (.seq .none .none))))))))))
theorem T12_ok : chkFn prog Tryz.f12 T12 = true := by kernel_rfl
def B12 (t_p0 tenant_p1 name_p2 sealed_p3 : Value) (w : World) (K : Value → World → Prop) : Prop :=
  Calls prog 31 #[t_p0, tenant_p1, name_p2] w (Ret fun t_0 w =>
  pvv prog (Instr.extract t_0 0) w fun t_1 w =>
  pvv prog (Instr.extract t_0 1) w fun t_2 w =>
  jn (fun σ w => pop σ fun e_3 σ => fin σ <|
    pvv prog (oEq .neq 32 (.tmp 31) (.const (.int .i64 0)) e_3 (.int .i64 0)) w fun t_4 w =>
    cd t_4 (
      K (.tuple #[(.slice none 0 0), (.int .i64 0), e_3]) w) <|
    pvv prog (Instr.indexAt 22 sealed_p3 (.int .i64 0)) w fun t_5 w =>
    ldv prog (Instr.loadAt 5 t_5) w fun t_6 w =>
    pvv prog (convert 5 3 t_6) w fun t_7 w =>
    Calls prog 32 #[t_p0, tenant_p1, name_p2, t_7] w (Ret fun t_8 w =>
    pvv prog (Instr.extract t_8 0) w fun t_9 w =>
    pvv prog (Instr.extract t_8 1) w fun t_10 w =>
    efv prog (Instr.alloc 28 true (.tuple #[])) w fun k_11 w =>
    efu prog (Instr.storeAt 28 k_11 t_9) w fun u_12 w =>
    pvv prog (oEq .neq 32 (.tmp 46) (.const (.int .i64 0)) t_10 (.int .i64 0)) w fun t_13 w =>
    cd t_13 (
      K (.tuple #[(.slice none 0 0), (.int .i64 0), t_10]) w) <|
    dr w fun w =>
    pvv prog (Instr.sliceAt 22 sealed_p3 (some (.int .i64 1)) none none) w fun t_14 w =>
    bindS (vN (Instr.loadAt 28 k_11)) fun m_16 => ldv prog (Instr.loadAt 28 k_11) w fun t_15 w =>
    Calls prog 34 #[t_15, t_14] w (Ret fun t_17 w =>
    pvv prog (Instr.extract t_17 0) w fun t_18 w =>
    pvv prog (Instr.extract t_17 1) w fun t_19 w =>
    pvv prog (Instr.extract t_17 2) w fun t_20 w =>
    pvv prog (oEq .neq 32 (.tmp 57) (.const (.int .i64 0)) t_20 (.int .i64 0)) w fun t_21 w =>
    cd t_21 (
      K (.tuple #[(.slice none 0 0), (.int .i64 0), t_20]) w) <|
    K (.tuple #[t_18, t_7, (.int .i64 0)]) w))) fun k_23 =>
  pvv prog (oEq .eql 32 (.tmp 24) (.const (.int .i64 0)) t_2 (.int .i64 0)) w fun t_24 w =>
  gate (some (t_24, true)) (fun K => K sealed_p3 w) w fun t_25 w =>
  gate (some (t_24, true)) (fun K => pv prog (oBi .len #[22] 3 #[false] #[t_25]) w K) w fun t_26 w =>
  gate (some (t_24, true)) (fun K => pvv prog (oEq .eql 3 (.tmp 28) (.const (.int .i64 0)) t_26 (.int .i64 0)) w K) w fun t_27 w =>
  pv prog (oPick t_24 t_27 (.bool false)) w fun t_28 w =>
  cd t_28 (
    k_23 [(.int .i64 3)] w) <|
  k_23 [t_2] w)
theorem B12_eq (t_p0 tenant_p1 name_p2 sealed_p3 : Value) (w : World) (K : Value → World → Prop) : denFn prog Tryz.f12 T12 [t_p0, tenant_p1, name_p2, sealed_p3] w K = B12 t_p0 tenant_p1 name_p2 sealed_p3 w K := by kernel_rfl
theorem c12 {t_p0 tenant_p1 name_p2 sealed_p3 : Value} {w : World} {K : Value → World → Prop} (h : B12 t_p0 tenant_p1 name_p2 sealed_p3 w K) : Calls prog 12 #[t_p0, tenant_p1, name_p2, sealed_p3] w (Ret K) :=
  denFn_calls Tryz.func12 T12_ok (Eq.mpr (B12_eq t_p0 tenant_p1 name_p2 sealed_p3 w K) h)

-- 11 (*holdfast/keys.Tree).Seal
def T11 : Ann := (.seq .none (.seq .none (.seq (.seq .none (.seq (.seq .none .none) .none)) (.seq .none (.seq (.draw [.op 1 .pure, .op 2 .pure, .op 3 .pure, .op 6 .pure, .op 0 .load, .op 4 .load, .op 5 .pure, .op 7 .eff, .op 8 .pure, .op 9 .pure, .op 10 .pure, .op 11 .pure, .op 12 .pure]) (.seq (.block (.seq .none (.seq (.seq .none .none) (.seq .none (.seq (.seq .none .none) .none))))) (.seq .none (.seq .none .none))))))))
theorem T11_ok : chkFn prog Tryz.f11 T11 = true := by kernel_rfl
def B11 (t_p0 tenant_p1 name_p2 plain_p3 : Value) (w : World) (K : Value → World → Prop) : Prop :=
  Calls prog 31 #[t_p0, tenant_p1, name_p2] w (Ret fun t_0 w =>
  pvv prog (Instr.extract t_0 0) w fun t_1 w =>
  pvv prog (Instr.extract t_0 1) w fun t_2 w =>
  pvv prog (oEq .neq 32 (.tmp 22) (.const (.int .i64 0)) t_2 (.int .i64 0)) w fun t_3 w =>
  cd t_3 (
    K (.tuple #[(.slice none 0 0), t_2]) w) <|
  Calls prog 32 #[t_p0, tenant_p1, name_p2, t_1] w (Ret fun t_4 w =>
  pvv prog (Instr.extract t_4 0) w fun t_5 w =>
  pvv prog (Instr.extract t_4 1) w fun t_6 w =>
  efv prog (Instr.alloc 28 true (.tuple #[])) w fun k_7 w =>
  efu prog (Instr.storeAt 28 k_7 t_5) w fun u_8 w =>
  dr w fun w =>
  pv prog (oNil t_p0) w fun t_9 w =>
  pvv prog (Instr.fieldAt 73 t_9 1) w fun t_10 w =>
  bindS (vN (Instr.loadAt 28 k_7)) fun m_12 => ldv prog (Instr.loadAt 28 k_7) w fun t_11 w =>
  bindS (vN (Instr.loadAt 3 t_10)) fun m_14 => ldv prog (Instr.loadAt 3 t_10) w fun t_13 w =>
  pvv prog (convert 3 79 t_13) w fun t_15 w =>
  Calls prog 33 #[t_11, t_15, plain_p3] w (Ret fun t_16 w => stay prog none m_14 t_13 w <| 
  pvv prog (Instr.extract t_16 0) w fun t_17 w =>
  pvv prog (Instr.extract t_16 1) w fun t_18 w =>
  pvv prog (oEq .neq 32 (.tmp 45) (.const (.int .i64 0)) t_18 (.int .i64 0)) w fun t_19 w =>
  cd t_19 (
    K (.tuple #[(.slice none 0 0), t_18]) w) <|
  pv prog (oNil t_p0) w fun t_20 w =>
  pvv prog (Instr.fieldAt 73 t_20 1) w fun t_21 w =>
  ldv prog (Instr.loadAt 3 t_21) w fun t_22 w =>
  pvv prog (binOp .geq 3 t_22 (.int .i64 1099511627776)) w fun t_23 w =>
  cd t_23 (
    K (.tuple #[(.slice none 0 0), (.int .i64 7)]) w) <|
  pv prog (oNil t_p0) w fun t_24 w =>
  pvv prog (Instr.fieldAt 73 t_24 1) w fun t_25 w =>
  ldv prog (Instr.loadAt 3 t_25) w fun t_26 w =>
  pvv prog (binOp .add 3 t_26 (.int .i64 1)) w fun t_27 w =>
  pv prog (oNil t_p0) w fun t_28 w =>
  pvv prog (Instr.fieldAt 73 t_28 1) w fun t_29 w =>
  efu prog (Instr.storeAt 3 t_29 t_27) w fun u_30 w =>
  pvv prog (convert 3 5 t_1) w fun t_31 w =>
  efv prog (Instr.buildSlice 22 1 #[(0, t_31)]) w fun t_32 w =>
  ef prog (oBi .append #[22, 22] 22 #[false, false] #[t_32, t_17]) w fun t_33 w =>
  K (.tuple #[t_33, (.int .i64 0)]) w)))
theorem B11_eq (t_p0 tenant_p1 name_p2 plain_p3 : Value) (w : World) (K : Value → World → Prop) : denFn prog Tryz.f11 T11 [t_p0, tenant_p1, name_p2, plain_p3] w K = B11 t_p0 tenant_p1 name_p2 plain_p3 w K := by kernel_rfl
theorem c11 {t_p0 tenant_p1 name_p2 plain_p3 : Value} {w : World} {K : Value → World → Prop} (h : B11 t_p0 tenant_p1 name_p2 plain_p3 w K) : Calls prog 11 #[t_p0, tenant_p1, name_p2, plain_p3] w (Ret K) :=
  denFn_calls Tryz.func11 T11_ok (Eq.mpr (B11_eq t_p0 tenant_p1 name_p2 plain_p3 w K) h)

-- 23 (*holdfast/cred.Book).Check
def T23 : Ann := (.seq .none (.seq .none (.seq (.seq .none (.seq (.seq .none .none) .none)) (.seq .none (.seq (.draw [.op 0 .pure, .op 3 .pure, .op 4 .pure, .op 5 .pure, .op 6 .pure, .op 8 .pure, .op 1 .load, .op 2 .load, .op 7 .load, .op 9 .load, .op 10 .eff, .op 11 .pure, .op 12 .eff, .op 13 .pure]) .none)))))
theorem T23_ok : chkFn prog Tryz.f23 T23 = true := by kernel_rfl
def B23 (b_p0 o_p1 password_p2 now_p3 : Value) (w : World) (K : Value → World → Prop) : Prop :=
  efv prog (Instr.box 54 o_p1) w fun o_0 w =>
  ldv prog (Instr.loadAt 54 o_0) w fun t_1 w =>
  Calls prog 45 #[b_p0, t_1, now_p3] w (Ret fun t_2 w =>
  pvv prog (Instr.extract t_2 0) w fun t_3 w =>
  pvv prog (Instr.extract t_2 1) w fun t_4 w =>
  efv prog (Instr.alloc 105 true (.tuple #[])) w fun r_5 w =>
  efu prog (Instr.storeAt 105 r_5 t_3) w fun u_6 w =>
  pvv prog (oEq .neq 32 (.tmp 19) (.const (.int .i64 0)) t_4 (.int .i64 0)) w fun t_7 w =>
  cd t_7 (
    K t_4 w) <|
  pvv prog (Instr.fieldAt 105 r_5 2) w fun t_8 w =>
  ldv prog (Instr.loadAt 9 t_8) w fun t_9 w =>
  pvv prog (Instr.fieldAt 105 r_5 3) w fun t_10 w =>
  ldv prog (Instr.loadAt 3 t_10) w fun t_11 w =>
  Calls prog 46 #[password_p2, t_9, t_11] w (Ret fun t_12 w =>
  pvv prog (Instr.extract t_12 0) w fun t_13 w =>
  pvv prog (Instr.extract t_12 1) w fun t_14 w =>
  efv prog (Instr.alloc 28 true (.tuple #[])) w fun h_15 w =>
  efu prog (Instr.storeAt 28 h_15 t_13) w fun u_16 w =>
  dr w fun w =>
  pvv prog (oEq .eql 32 (.tmp 35) (.const (.int .i64 0)) t_14 (.int .i64 0)) w fun t_17 w =>
  gate (some (t_17, true)) (fun K => pvv prog (Instr.fieldAt 105 r_5 1) w K) w fun t_18 w =>
  bindS (vN (Instr.loadAt 54 o_0)) fun m_20 => ldv prog (Instr.loadAt 54 o_0) w fun t_19 w =>
  bindS (vN (Instr.loadAt 105 r_5)) fun m_22 => ldv prog (Instr.loadAt 105 r_5) w fun t_21 w =>
  bindS (vN (Instr.loadAt 28 h_15)) fun m_24 => gate (some (t_17, true)) (fun K => ldv prog (Instr.loadAt 28 h_15) w K) w fun t_23 w =>
  bindS (vN (Instr.loadAt 28 t_18)) fun m_26 => gate (some (t_17, true)) (fun K => ldv prog (Instr.loadAt 28 t_18) w K) w fun t_25 w =>
  gate (some (t_17, true)) (fun K => Calls prog 48 #[t_23, t_25] w (Ret fun s_31 w => stay prog none m_22 t_21 w <| stay prog none m_20 t_19 w <| K s_31 w)) w fun t_27 w =>
  pv prog (oPick t_17 t_27 (.bool false)) w fun t_28 w =>
  Calls prog 47 #[b_p0, t_19, t_21, now_p3, t_28] w (Ret fun t_29 w => stay prog (some (t_17, true)) m_26 t_25 w <| stay prog (some (t_17, true)) m_24 t_23 w <| 
  K t_29 w)))
theorem B23_eq (b_p0 o_p1 password_p2 now_p3 : Value) (w : World) (K : Value → World → Prop) : denFn prog Tryz.f23 T23 [b_p0, o_p1, password_p2, now_p3] w K = B23 b_p0 o_p1 password_p2 now_p3 w K := by kernel_rfl
theorem c23 {b_p0 o_p1 password_p2 now_p3 : Value} {w : World} {K : Value → World → Prop} (h : B23 b_p0 o_p1 password_p2 now_p3 w K) : Calls prog 23 #[b_p0, o_p1, password_p2, now_p3] w (Ret K) :=
  denFn_calls Tryz.func23 T23_ok (Eq.mpr (B23_eq b_p0 o_p1 password_p2 now_p3 w K) h)

-- 124 unicode/utf8.DecodeLastRuneInString
def T124 : Ann := (.seq .none (.seq .none (.seq (.seq .none (.seq (.seq .none .none) .none)) (.seq .none (.seq .none (.seq (.seq .none (.seq (.seq .none .none) .none)) (.seq .none (.meet 17171480608 [5] (.seq .none (.block (.loop 17146314784 [5] (.seq (.seq .none (.seq .none .none)) (.seq (.block (.seq .none (.seq .none .none))) .none))))) (.meet 51539607584 [5] (.seq .none (.seq .none .none)) (.seq .none (.seq (.seq .none (.seq (.seq .none .none) .none)) (.seq .none .none))))))))))))
theorem T124_ok : chkFn prog Tryz.f124 T124 = true := by kernel_rfl
def B124 (s_p0 : Value) (w : World) (K : Value → World → Prop) : Prop :=
  pv prog (oBi .len #[9] 3 #[false] #[s_p0]) w fun t_0 w =>
  pvv prog (oEq .eql 3 (.tmp 9) (.const (.int .i64 0)) t_0 (.int .i64 0)) w fun t_1 w =>
  cd t_1 (
    K (.tuple #[(.int .i32 65533), (.int .i64 0)]) w) <|
  pvv prog (binOp .sub 3 t_0 (.int .i64 1)) w fun t_2 w =>
  pvv prog (Instr.index 9 s_p0 t_2) w fun t_3 w =>
  pvv prog (convert 5 21 t_3) w fun t_4 w =>
  pvv prog (binOp .lss 21 t_4 (.int .i32 128)) w fun t_5 w =>
  cd t_5 (
    K (.tuple #[t_4, (.int .i64 1)]) w) <|
  pvv prog (binOp .sub 3 t_0 (.int .i64 4)) w fun t_6 w =>
  pv prog (oBi .max #[3, 3] 3 #[false, true] #[t_6, (.int .i64 0)]) w fun t_7 w =>
  jn (fun σ w => pop σ fun start_8 σ => fin σ <|
    jn (fun σ w => pop σ fun start_9 σ => fin σ <|
      pvv prog (Instr.sliceAt 9 s_p0 (some start_9) (some t_0) none) w fun t_10 w =>
      Calls prog 122 #[t_10] w (Ret fun t_11 w =>
      pvv prog (Instr.extract t_11 0) w fun t_12 w =>
      pvv prog (Instr.extract t_11 1) w fun t_13 w =>
      pvv prog (binOp .add 3 start_9 t_13) w fun t_14 w =>
      pvv prog (oEq .neq 3 (.tmp 46) (.tmp 47) t_14 t_0) w fun t_15 w =>
      cd t_15 (
        K (.tuple #[(.int .i32 65533), (.int .i64 1)]) w) <|
      K (.tuple #[t_12, t_13]) w)) fun k_16 =>
    pvv prog (binOp .lss 3 start_8 (.int .i64 0)) w fun t_17 w =>
    cd t_17 (
      k_16 [(.int .i64 0)] w) <|
    k_16 [start_8] w) fun k_18 =>
  pvv prog (binOp .sub 3 t_2 (.int .i64 1)) w fun t_19 w =>
  lp (fun σ w again_21 => pop σ fun start_20 σ => fin σ <|
    pvv prog (binOp .geq 3 start_20 t_7) w fun t_22 w =>
    cd t_22 (
      pvv prog (Instr.index 9 s_p0 start_20) w fun t_23 w =>
      Calls prog 154 #[t_23] w (Ret fun t_24 w =>
      cd t_24 (
        k_18 [start_20] w) <|
      pvv prog (binOp .sub 3 start_20 (.int .i64 1)) w fun t_25 w =>
      again_21 [t_25] w)) <|
    k_18 [start_20] w) [t_19] w
theorem B124_eq (s_p0 : Value) (w : World) (K : Value → World → Prop) : denFn prog Tryz.f124 T124 [s_p0] w K = B124 s_p0 w K := by kernel_rfl
theorem c124 {s_p0 : Value} {w : World} {K : Value → World → Prop} (h : B124 s_p0 w K) : Calls prog 124 #[s_p0] w (Ret K) :=
  denFn_calls Tryz.func124 T124_ok (Eq.mpr (B124_eq s_p0 w K) h)

-- 32 (*holdfast/keys.Tree).Key
def T32 : Ann := (.seq .none (.seq .none (.seq (.block (.seq .none (.seq (.seq .none .none) (.seq .none (.seq (.seq .none .none) .none))))) (.seq .none (.seq .none .none)))))
theorem T32_ok : chkFn prog Tryz.f32 T32 = true := by kernel_rfl
def B32 (t_p0 tenant_p1 name_p2 version_p3 : Value) (w : World) (K : Value → World → Prop) : Prop :=
  efv prog (Instr.alloc 28 true (.tuple #[])) w fun t_0 w =>
  Calls prog 31 #[t_p0, tenant_p1, name_p2] w (Ret fun t_1 w =>
  pvv prog (Instr.extract t_1 0) w fun t_2 w =>
  pvv prog (Instr.extract t_1 1) w fun t_3 w =>
  pvv prog (oEq .neq 32 (.tmp 22) (.const (.int .i64 0)) t_3 (.int .i64 0)) w fun t_4 w =>
  cd t_4 (
    pvv prog (Instr.build 28 #[]) w fun t_5 w =>
    efu prog (Instr.storeAt 28 t_0 t_5) w fun u_6 w =>
    ∃ r_7, (do loadVar 28 (← asAddr t_0)).run prog w = .ok r_7 w ∧ K (.tuple #[r_7, t_3]) w) <|
  pvv prog (binOp .lss 3 version_p3 (.int .i64 1)) w fun t_8 w =>
  gate (some (t_8, false)) (fun K => K version_p3 w) w fun t_9 w =>
  gate (some (t_8, false)) (fun K => K t_2 w) w fun t_10 w =>
  gate (some (t_8, false)) (fun K => pvv prog (binOp .gtr 3 t_9 t_10) w K) w fun t_11 w =>
  pv prog (oPick t_8 (.bool true) t_11) w fun t_12 w =>
  cd t_12 (
    pvv prog (Instr.build 28 #[]) w fun t_13 w =>
    efu prog (Instr.storeAt 28 t_0 t_13) w fun u_14 w =>
    ∃ r_15, (do loadVar 28 (← asAddr t_0)).run prog w = .ok r_15 w ∧ K (.tuple #[r_15, (.int .i64 2)]) w) <|
  Calls prog 52 #[version_p3] w (Ret fun t_16 w =>
  pvv prog (Instr.extract t_16 0) w fun t_17 w =>
  pvv prog (Instr.extract t_16 1) w fun t_18 w =>
  pv prog (oNil t_p0) w fun t_19 w =>
  pvv prog (Instr.fieldAt 73 t_19 0) w fun t_20 w =>
  ldv prog (Instr.loadAt 28 t_20) w fun t_21 w =>
  efv prog (Instr.buildSlice 39 3 #[(0, tenant_p1), (1, name_p2), (2, t_17)]) w fun t_22 w =>
  Calls prog 54 #[t_21, t_22] w (Ret fun t_23 w =>
  pvv prog (Instr.extract t_23 0) w fun t_24 w =>
  pvv prog (Instr.extract t_23 1) w fun t_25 w =>
  efu prog (Instr.storeAt 28 t_0 t_24) w fun u_26 w =>
  ∃ r_27, (do loadVar 28 (← asAddr t_0)).run prog w = .ok r_27 w ∧ K (.tuple #[r_27, t_25]) w)))
theorem B32_eq (t_p0 tenant_p1 name_p2 version_p3 : Value) (w : World) (K : Value → World → Prop) : denFn prog Tryz.f32 T32 [t_p0, tenant_p1, name_p2, version_p3] w K = B32 t_p0 tenant_p1 name_p2 version_p3 w K := by kernel_rfl
theorem c32 {t_p0 tenant_p1 name_p2 version_p3 : Value} {w : World} {K : Value → World → Prop} (h : B32 t_p0 tenant_p1 name_p2 version_p3 w K) : Calls prog 32 #[t_p0, tenant_p1, name_p2, version_p3] w (Ret K) :=
  denFn_calls Tryz.func32 T32_ok (Eq.mpr (B32_eq t_p0 tenant_p1 name_p2 version_p3 w K) h)

-- 114 strings.explode
def T114 : Ann := (.seq .none (.seq .none (.meet 1044482 [1] (.seq .none (.seq .none .none)) (.seq .none (.seq (.seq .none (.block (.loop 4398042317697 [0, 7] (.seq (.seq .none (.seq .none .none)) (.seq (.block (.seq .none (.seq .none .none))) .none))))) (.meet 558551906910208 [] (.seq .none (.seq .none .none)) (.seq .none .none)))))))
theorem T114_ok : chkFn prog Tryz.f114 T114 = true := by kernel_rfl
def B114 (s_p0 n_p1 : Value) (w : World) (K : Value → World → Prop) : Prop :=
  Calls prog 145 #[s_p0] w (Ret fun t_0 w =>
  jn (fun σ w => pop σ fun n_1 σ => fin σ <|
    efv prog (Instr.makeSlice 39 n_1 n_1) w fun t_2 w =>
    lp (fun σ w again_5 => pop σ fun s_3 σ => pop σ fun i_4 σ => fin σ <|
      pvv prog (binOp .sub 3 n_1 (.int .i64 1)) w fun t_6 w =>
      pvv prog (binOp .lss 3 i_4 t_6) w fun t_7 w =>
      cd t_7 (
        Calls prog 122 #[s_3] w (Ret fun t_8 w =>
        pvv prog (Instr.extract t_8 0) w fun t_9 w =>
        pvv prog (Instr.extract t_8 1) w fun t_10 w =>
        pvv prog (Instr.sliceAt 9 s_3 none (some t_10) none) w fun t_11 w =>
        pvv prog (Instr.indexAt 39 t_2 i_4) w fun t_12 w =>
        efu prog (Instr.storeAt 9 t_12 t_11) w fun u_13 w =>
        pvv prog (Instr.sliceAt 9 s_3 (some t_10) none none) w fun t_14 w =>
        pvv prog (binOp .add 3 i_4 (.int .i64 1)) w fun t_15 w =>
        again_5 [t_14, t_15] w)) <|
      jn (fun σ w => fin σ <|
        K t_2 w) fun k_16 =>
      pvv prog (binOp .gtr 3 n_1 (.int .i64 0)) w fun t_17 w =>
      cd t_17 (
        pvv prog (binOp .sub 3 n_1 (.int .i64 1)) w fun t_18 w =>
        pvv prog (Instr.indexAt 39 t_2 t_18) w fun t_19 w =>
        efu prog (Instr.storeAt 9 t_19 s_3) w fun u_20 w =>
        k_16 [] w) <|
      k_16 [] w) [s_p0, (.int .i64 0)] w) fun k_21 =>
  pvv prog (binOp .lss 3 n_p1 (.int .i64 0)) w fun t_22 w =>
  gate (some (t_22, false)) (fun K => K n_p1 w) w fun t_23 w =>
  gate (some (t_22, false)) (fun K => K t_0 w) w fun t_24 w =>
  gate (some (t_22, false)) (fun K => pvv prog (binOp .gtr 3 t_23 t_24) w K) w fun t_25 w =>
  pv prog (oPick t_22 (.bool true) t_25) w fun t_26 w =>
  cd t_26 (
    k_21 [t_0] w) <|
  k_21 [n_p1] w)
theorem B114_eq (s_p0 n_p1 : Value) (w : World) (K : Value → World → Prop) : denFn prog Tryz.f114 T114 [s_p0, n_p1] w K = B114 s_p0 n_p1 w K := by kernel_rfl
theorem c114 {s_p0 n_p1 : Value} {w : World} {K : Value → World → Prop} (h : B114 s_p0 n_p1 w K) : Calls prog 114 #[s_p0, n_p1] w (Ret K) :=
  denFn_calls Tryz.func114 T114_ok (Eq.mpr (B114_eq s_p0 n_p1 w K) h)

-- 190 internal/bytealg.hashStr[string]
def T190 : Ann := (.seq .none (.seq .none (.seq (.seq .none (.block (.loop 4193840 [4, 5] (.seq (.seq .none (.seq .none .none)) (.seq (.block .none) .none))))) (.seq .none (.seq (.seq .none (.block (.loop 137422176704 [6, 7, 8] (.seq (.seq .none (.seq .none .none)) (.seq (.block (.meet 16911433792 [6] (.seq .none (.seq .none .none)) .none)) .none))))) (.seq .none .none))))))
theorem T190_ok : chkFn prog Tryz.f190 T190 = true := by kernel_rfl
def B190 (sep_p0 : Value) (w : World) (K : Value → World → Prop) : Prop :=
  lp (fun σ w again_2 => pop σ fun hash_0 σ => pop σ fun i_1 σ => fin σ <|
    pv prog (oBi .len #[9] 3 #[false] #[sep_p0]) w fun t_3 w =>
    pvv prog (binOp .lss 3 i_1 t_3) w fun t_4 w =>
    cd t_4 (
      pvv prog (binOp .mul 74 hash_0 (.int .u32 16777619)) w fun t_5 w =>
      pvv prog (Instr.index 9 sep_p0 i_1) w fun t_6 w =>
      pvv prog (convert 5 74 t_6) w fun t_7 w =>
      pvv prog (binOp .add 74 t_5 t_7) w fun t_8 w =>
      pvv prog (binOp .add 3 i_1 (.int .i64 1)) w fun t_9 w =>
      again_2 [t_8, t_9] w) <|
    pv prog (oBi .len #[9] 3 #[false] #[sep_p0]) w fun t_10 w =>
    lp (fun σ w again_14 => pop σ fun pow_11 σ => pop σ fun sq_12 σ => pop σ fun i_13 σ => fin σ <|
      pvv prog (binOp .gtr 3 i_13 (.int .i64 0)) w fun t_15 w =>
      cd t_15 (
        jn (fun σ w => pop σ fun pow_16 σ => fin σ <|
          pvv prog (binOp .mul 74 sq_12 sq_12) w fun t_17 w =>
          pvv prog (binOp .shr 3 i_13 (.int .u64 1)) w fun t_18 w =>
          again_14 [pow_16, t_17, t_18] w) fun k_19 =>
        pvv prog (binOp .and 3 i_13 (.int .i64 1)) w fun t_20 w =>
        pvv prog (oEq .neq 3 (.tmp 29) (.const (.int .i64 0)) t_20 (.int .i64 0)) w fun t_21 w =>
        cd t_21 (
          pvv prog (binOp .mul 74 pow_11 sq_12) w fun t_22 w =>
          k_19 [t_22] w) <|
        k_19 [pow_11] w) <|
      K (.tuple #[hash_0, pow_11]) w) [(.int .u32 1), (.int .u32 16777619), t_10] w) [(.int .u32 0), (.int .i64 0)] w
theorem B190_eq (sep_p0 : Value) (w : World) (K : Value → World → Prop) : denFn prog Tryz.f190 T190 [sep_p0] w K = B190 sep_p0 w K := by kernel_rfl
theorem c190 {sep_p0 : Value} {w : World} {K : Value → World → Prop} (h : B190 sep_p0 w K) : Calls prog 190 #[sep_p0] w (Ret K) :=
  denFn_calls Tryz.func190 T190_ok (Eq.mpr (B190_eq sep_p0 w K) h)

-- 88 math/bits.Len32
def T88 : Ann := (.seq .none (.meet 125 [0, 2] (.seq .none (.seq (.seq .none .none) .none)) (.meet 8069 [0, 2] (.seq .none (.seq (.seq .none .none) .none)) (.seq .none .none))))
theorem T88_ok : chkFn prog Tryz.f88 T88 = true := by kernel_rfl
def B88 (x_p0 : Value) (w : World) (K : Value → World → Prop) : Prop :=
  jn (fun σ w => pop σ fun x_0 σ => pop σ fun n_1 σ => fin σ <|
    jn (fun σ w => pop σ fun x_2 σ => pop σ fun n_3 σ => fin σ <|
      pvv prog (convert 74 5 x_2) w fun t_4 w =>
      pvv prog (Instr.index 9 (.string ⟨#[0, 1, 2, 2, 3, 3, 3, 3, 4, 4, 4, 4, 4, 4, 4, 4, 5, 5, 5, 5, 5, 5, 5, 5, 5, 5, 5, 5, 5, 5, 5, 5, 6, 6, 6, 6, 6, 6, 6, 6, 6, 6, 6, 6, 6, 6, 6, 6, 6, 6, 6, 6, 6, 6, 6, 6, 6, 6, 6, 6, 6, 6, 6, 6, 7, 7, 7, 7, 7, 7, 7, 7, 7, 7, 7, 7, 7, 7, 7, 7, 7, 7, 7, 7, 7, 7, 7, 7, 7, 7, 7, 7, 7, 7, 7, 7, 7, 7, 7, 7, 7, 7, 7, 7, 7, 7, 7, 7, 7, 7, 7, 7, 7, 7, 7, 7, 7, 7, 7, 7, 7, 7, 7, 7, 7, 7, 7, 7, 8, 8, 8, 8, 8, 8, 8, 8, 8, 8, 8, 8, 8, 8, 8, 8, 8, 8, 8, 8, 8, 8, 8, 8, 8, 8, 8, 8, 8, 8, 8, 8, 8, 8, 8, 8, 8, 8, 8, 8, 8, 8, 8, 8, 8, 8, 8, 8, 8, 8, 8, 8, 8, 8, 8, 8, 8, 8, 8, 8, 8, 8, 8, 8, 8, 8, 8, 8, 8, 8, 8, 8, 8, 8, 8, 8, 8, 8, 8, 8, 8, 8, 8, 8, 8, 8, 8, 8, 8, 8, 8, 8, 8, 8, 8, 8, 8, 8, 8, 8, 8, 8, 8, 8, 8, 8, 8, 8, 8, 8, 8, 8, 8, 8, 8, 8, 8, 8, 8, 8, 8, 8, 8, 8, 8, 8, 8, 8]⟩) t_4) w fun t_5 w =>
      pvv prog (convert 5 3 t_5) w fun t_6 w =>
      pvv prog (binOp .add 3 n_3 t_6) w fun t_7 w =>
      K t_7 w) fun k_8 =>
    pvv prog (binOp .geq 74 x_0 (.int .u32 256)) w fun t_9 w =>
    cd t_9 (
      pvv prog (binOp .shr 74 x_0 (.int .u64 8)) w fun t_10 w =>
      pvv prog (binOp .add 3 n_1 (.int .i64 8)) w fun t_11 w =>
      k_8 [t_10, t_11] w) <|
    k_8 [x_0, n_1] w) fun k_12 =>
  pvv prog (binOp .geq 74 x_p0 (.int .u32 65536)) w fun t_13 w =>
  cd t_13 (
    pvv prog (binOp .shr 74 x_p0 (.int .u64 16)) w fun t_14 w =>
    k_12 [t_14, (.int .i64 16)] w) <|
  k_12 [x_p0, (.int .i64 0)] w
theorem B88_eq (x_p0 : Value) (w : World) (K : Value → World → Prop) : denFn prog Tryz.f88 T88 [x_p0] w K = B88 x_p0 w K := by kernel_rfl
theorem c88 {x_p0 : Value} {w : World} {K : Value → World → Prop} (h : B88 x_p0 w K) : Calls prog 88 #[x_p0] w (Ret K) :=
  denFn_calls Tryz.func88 T88_ok (Eq.mpr (B88_eq x_p0 w K) h)

-- 104 strconv.toError
def T104 : Ann := (.seq .none (.seq (.seq .none (.block (.seq .none (.seq (.seq .none .none) (.seq .none (.seq (.seq .none .none) (.seq .none (.seq (.seq .none .none) (.seq .none (.seq (.seq .none .none) .none)))))))))) (.seq .none .none)))
theorem T104_ok : chkFn prog Tryz.f104 T104 = true := by kernel_rfl
def B104 (fn_p0 s_p1 base_p2 bitSize_p3 err_p4 : Value) (w : World) (K : Value → World → Prop) : Prop :=
  pvv prog (Instr.makeInterface 203 (.int .i64 2)) w fun t_0 w =>
  pvv prog (oEq .eql 151 (.tmp 11) (.tmp 13) err_p4 t_0) w fun t_1 w =>
  cd t_1 (
    Calls prog 130 #[fn_p0, s_p1] w (Ret fun t_2 w =>
    pvv prog (Instr.makeInterface 205 t_2) w fun t_3 w =>
    K t_3 w)) <|
  pvv prog (Instr.makeInterface 203 (.int .i64 1)) w fun t_4 w =>
  pvv prog (oEq .eql 151 (.tmp 11) (.tmp 20) err_p4 t_4) w fun t_5 w =>
  cd t_5 (
    Calls prog 131 #[fn_p0, s_p1] w (Ret fun t_6 w =>
    pvv prog (Instr.makeInterface 205 t_6) w fun t_7 w =>
    K t_7 w)) <|
  pvv prog (Instr.makeInterface 203 (.int .i64 3)) w fun t_8 w =>
  pvv prog (oEq .eql 151 (.tmp 11) (.tmp 27) err_p4 t_8) w fun t_9 w =>
  cd t_9 (
    Calls prog 132 #[fn_p0, s_p1, base_p2] w (Ret fun t_10 w =>
    pvv prog (Instr.makeInterface 205 t_10) w fun t_11 w =>
    K t_11 w)) <|
  pvv prog (Instr.makeInterface 203 (.int .i64 4)) w fun t_12 w =>
  pvv prog (oEq .eql 151 (.tmp 11) (.tmp 35) err_p4 t_12) w fun t_13 w =>
  cd t_13 (
    Calls prog 133 #[fn_p0, s_p1, bitSize_p3] w (Ret fun t_14 w =>
    pvv prog (Instr.makeInterface 205 t_14) w fun t_15 w =>
    K t_15 w)) <|
  K err_p4 w
theorem B104_eq (fn_p0 s_p1 base_p2 bitSize_p3 err_p4 : Value) (w : World) (K : Value → World → Prop) : denFn prog Tryz.f104 T104 [fn_p0, s_p1, base_p2, bitSize_p3, err_p4] w K = B104 fn_p0 s_p1 base_p2 bitSize_p3 err_p4 w K := by kernel_rfl
theorem c104 {fn_p0 s_p1 base_p2 bitSize_p3 err_p4 : Value} {w : World} {K : Value → World → Prop} (h : B104 fn_p0 s_p1 base_p2 bitSize_p3 err_p4 w K) : Calls prog 104 #[fn_p0, s_p1, base_p2, bitSize_p3, err_p4] w (Ret K) :=
  denFn_calls Tryz.func104 T104_ok (Eq.mpr (B104_eq fn_p0 s_p1 base_p2 bitSize_p3 err_p4 w K) h)

-- 183 (*strings.Builder).grow
def T183 : Ann := (.seq (.draw [.op 0 .pure, .op 1 .pure, .op 2 .pure, .op 6 .pure, .op 9 .pure, .op 10 .pure, .op 11 .pure, .op 3 .load, .op 4 .pure, .op 5 .pure, .op 7 .pure, .op 12 .load, .op 13 .pure, .op 8 .eff, .op 14 .pure, .op 15 .pure]) (.seq .none .none))
theorem T183_ok : chkFn prog Tryz.f183 T183 = true := by kernel_rfl
def B183 (b_p0 n_p1 : Value) (w : World) (K : Value → World → Prop) : Prop :=
  dr w fun w =>
  pv prog (oNil b_p0) w fun t_0 w =>
  pvv prog (Instr.fieldAt 227 t_0 1) w fun t_1 w =>
  pv prog (oNil b_p0) w fun t_2 w =>
  pvv prog (Instr.fieldAt 227 t_2 1) w fun t_3 w =>
  bindS (vN (Instr.loadAt 22 t_1)) fun m_5 => ldv prog (Instr.loadAt 22 t_1) w fun t_4 w =>
  pv prog (oBi .cap #[22] 3 #[false] #[t_4]) w fun t_6 w =>
  pvv prog (binOp .mul 3 (.int .i64 2) t_6) w fun t_7 w =>
  pvv prog (binOp .add 3 t_7 n_p1) w fun t_8 w =>
  bindS (vN (Instr.loadAt 22 t_3)) fun m_10 => ldv prog (Instr.loadAt 22 t_3) w fun t_9 w =>
  pv prog (oBi .len #[22] 3 #[false] #[t_9]) w fun t_11 w =>
  ef prog (oCall (.func (.func 192) #[] #[]) #[t_8]) w fun t_12 w => stay prog none m_10 t_9 w <| stay prog none m_5 t_4 w <| 
  pvv prog (Instr.sliceAt 22 t_12 none (some t_11) none) w fun t_13 w =>
  pv prog (oNil b_p0) w fun t_14 w =>
  pvv prog (Instr.fieldAt 227 t_14 1) w fun t_15 w =>
  ldv prog (Instr.loadAt 22 t_15) w fun t_16 w =>
  ef prog (oBi .copy #[22, 22] 3 #[false, false] #[t_13, t_16]) w fun t_17 w =>
  pv prog (oNil b_p0) w fun t_18 w =>
  pvv prog (Instr.fieldAt 227 t_18 1) w fun t_19 w =>
  efu prog (Instr.storeAt 22 t_19 t_13) w fun u_20 w =>
  K (.tuple #[]) w
theorem B183_eq (b_p0 n_p1 : Value) (w : World) (K : Value → World → Prop) : denFn prog Tryz.f183 T183 [b_p0, n_p1] w K = B183 b_p0 n_p1 w K := by kernel_rfl
theorem c183 {b_p0 n_p1 : Value} {w : World} {K : Value → World → Prop} (h : B183 b_p0 n_p1 w K) : Calls prog 183 #[b_p0, n_p1] w (Ret K) :=
  denFn_calls Tryz.func183 T183_ok (Eq.mpr (B183_eq b_p0 n_p1 w K) h)

-- 35 holdfast/audit.read
def T35 : Ann := (.seq .none (.seq (.seq .none (.seq (.seq .none .none) .none)) (.seq (.seq .none (.block (.loop 34359673328 [16] (.seq .none (.seq (.seq .none .none) (.seq (.block (.seq .none (.seq .none (.seq (.seq .none (.seq (.seq .none .none) .none)) .none)))) .none)))))) (.seq .none .none))))
theorem T35_ok : chkFn prog Tryz.f35 T35 = true := by kernel_rfl
def B35 (l_p0 to_p1 : Value) (w : World) (K : Value → World → Prop) : Prop :=
  pv prog (oBi .len #[39] 3 #[false] #[l_p0]) w fun t_0 w =>
  pv prog (oBi .len #[133] 3 #[false] #[to_p1]) w fun t_1 w =>
  pvv prog (oEq .neq 3 (.tmp 10) (.tmp 12) t_0 t_1) w fun t_2 w =>
  cd t_2 (
    K (.bool false) w) <|
  pv prog (oBi .len #[39] 3 #[false] #[l_p0]) w fun t_3 w =>
  lp (fun σ w again_5 => pop σ fun t_4 σ => fin σ <|
    pvv prog (binOp .lss 3 t_4 t_3) w fun t_6 w =>
    cd t_6 (
      pvv prog (Instr.indexAt 39 l_p0 t_4) w fun t_7 w =>
      ldv prog (Instr.loadAt 9 t_7) w fun t_8 w =>
      Calls prog 59 #[t_8] w (Ret fun t_9 w =>
      pvv prog (Instr.extract t_9 0) w fun t_10 w =>
      pvv prog (Instr.extract t_9 1) w fun t_11 w =>
      pvv prog (oEq .neq 32 (.tmp 26) (.const (.int .i64 0)) t_11 (.int .i64 0)) w fun t_12 w =>
      cd t_12 (
        K (.bool false) w) <|
      pvv prog (Instr.indexAt 133 to_p1 t_4) w fun t_13 w =>
      ldv prog (Instr.loadAt 92 t_13) w fun t_14 w =>
      pv prog (oNil t_14) w fun t_15 w =>
      efu prog (Instr.storeAt 3 t_15 t_10) w fun u_16 w =>
      pvv prog (binOp .add 3 t_4 (.int .i64 1)) w fun t_17 w =>
      again_5 [t_17] w)) <|
    K (.bool true) w) [(.int .i64 0)] w
theorem B35_eq (l_p0 to_p1 : Value) (w : World) (K : Value → World → Prop) : denFn prog Tryz.f35 T35 [l_p0, to_p1] w K = B35 l_p0 to_p1 w K := by kernel_rfl
theorem c35 {l_p0 to_p1 : Value} {w : World} {K : Value → World → Prop} (h : B35 l_p0 to_p1 w K) : Calls prog 35 #[l_p0, to_p1] w (Ret K) :=
  denFn_calls Tryz.func35 T35_ok (Eq.mpr (B35_eq l_p0 to_p1 w K) h)

-- 62 (*holdfast/cred.Book).Tenants
def T62 : Ann := (.seq .none (.seq (.seq .none (.seq (.seq .none .none) .none)) (.seq .none (.seq (.seq .none (.block (.loop 1040400 [] (.seq .none (.seq (.seq .none .none) (.block (.seq .none .none))))))) (.seq .none .none)))))
theorem T62_ok : chkFn prog Tryz.f62 T62 = true := by kernel_rfl
def B62 (b_p0 : Value) (w : World) (K : Value → World → Prop) : Prop :=
  pvv prog (oEq .eql 51 (.tmp 5) (.const (.pointer none)) b_p0 (.pointer none)) w fun t_0 w =>
  cd t_0 (
    K (.slice none 0 0) w) <|
  efv prog (Instr.makeMap 70 none) w fun t_1 w =>
  pv prog (oNil b_p0) w fun t_2 w =>
  pvv prog (Instr.fieldAt 100 t_2 0) w fun t_3 w =>
  ldv prog (Instr.loadAt 98 t_3) w fun t_4 w =>
  efv prog (Instr.range 98 t_4) w fun t_5 w =>
  lp (fun σ w again_6 => fin σ <|
    efv prog (Instr.next t_5 false 0) w fun t_7 w =>
    pvv prog (Instr.extract t_7 0) w fun t_8 w =>
    cd t_8 (
      efv prog (Instr.entry t_5) w fun t_9 w =>
      pvv prog (Instr.extract t_9 0) w fun t_10 w =>
      efv prog (Instr.alloc 54 true (.tuple #[])) w fun o_11 w =>
      efu prog (Instr.storeAt 54 o_11 t_10) w fun u_12 w =>
      pvv prog (Instr.fieldAt 54 o_11 0) w fun t_13 w =>
      ldv prog (Instr.loadAt 9 t_13) w fun t_14 w =>
      efu prog (Instr.mapUpdate 70 t_1 t_14 (.bool true)) w fun u_15 w =>
      again_6 [] w) <|
    Calls prog 79 #[t_1] w (Ret fun t_16 w =>
    Calls prog 78 #[t_16] w (Ret fun t_17 w =>
    K t_17 w))) [] w
theorem B62_eq (b_p0 : Value) (w : World) (K : Value → World → Prop) : denFn prog Tryz.f62 T62 [b_p0] w K = B62 b_p0 w K := by kernel_rfl
theorem c62 {b_p0 : Value} {w : World} {K : Value → World → Prop} (h : B62 b_p0 w K) : Calls prog 62 #[b_p0] w (Ret K) :=
  denFn_calls Tryz.func62 T62_ok (Eq.mpr (B62_eq b_p0 w K) h)

-- 67 holdfast/cred.numbers
def T67 : Ann := (.seq .none (.seq (.seq .none (.block (.loop 67108076 [2, 10] (.seq .none (.seq (.seq .none .none) (.seq (.block (.seq .none (.seq .none (.seq (.seq .none (.seq (.seq .none .none) .none)) .none)))) .none)))))) (.seq .none .none)))
theorem T67_ok : chkFn prog Tryz.f67 T67 = true := by kernel_rfl
def B67 (l_p0 : Value) (w : World) (K : Value → World → Prop) : Prop :=
  pv prog (oBi .len #[39] 3 #[false] #[l_p0]) w fun t_0 w =>
  lp (fun σ w again_3 => pop σ fun out_1 σ => pop σ fun t_2 σ => fin σ <|
    pvv prog (binOp .lss 3 t_2 t_0) w fun t_4 w =>
    cd t_4 (
      pvv prog (Instr.indexAt 39 l_p0 t_2) w fun t_5 w =>
      ldv prog (Instr.loadAt 9 t_5) w fun t_6 w =>
      Calls prog 59 #[t_6] w (Ret fun t_7 w =>
      pvv prog (Instr.extract t_7 0) w fun t_8 w =>
      pvv prog (Instr.extract t_7 1) w fun t_9 w =>
      pvv prog (oEq .neq 32 (.tmp 19) (.const (.int .i64 0)) t_9 (.int .i64 0)) w fun t_10 w =>
      cd t_10 (
        K (.tuple #[(.slice none 0 0), (.bool false)]) w) <|
      efv prog (Instr.buildSlice 142 1 #[(0, t_8)]) w fun t_11 w =>
      ef prog (oBi .append #[142, 142] 142 #[false, false] #[out_1, t_11]) w fun t_12 w =>
      pvv prog (binOp .add 3 t_2 (.int .i64 1)) w fun t_13 w =>
      again_3 [t_12, t_13] w)) <|
    K (.tuple #[out_1, (.bool true)]) w) [(.slice none 0 0), (.int .i64 0)] w
theorem B67_eq (l_p0 : Value) (w : World) (K : Value → World → Prop) : denFn prog Tryz.f67 T67 [l_p0] w K = B67 l_p0 w K := by kernel_rfl
theorem c67 {l_p0 : Value} {w : World} {K : Value → World → Prop} (h : B67 l_p0 w K) : Calls prog 67 #[l_p0] w (Ret K) :=
  denFn_calls Tryz.func67 T67_ok (Eq.mpr (B67_eq l_p0 w K) h)

-- 97 strings.trimRightASCII
def T97 : Ann := (.seq .none (.meet 2097121 [0] (.block (.loop 2097121 [0] (.seq (.seq .none (.seq .none .none)) (.block (.seq (.seq .none (.seq .none .none)) .none))))) (.seq .none .none)))
theorem T97_ok : chkFn prog Tryz.f97 T97 = true := by kernel_rfl
def B97 (s_p0 as_p1 : Value) (w : World) (K : Value → World → Prop) : Prop :=
  jn (fun σ w => pop σ fun s_0 σ => fin σ <|
    K s_0 w) fun k_1 =>
  lp (fun σ w again_3 => pop σ fun s_2 σ => fin σ <|
    pv prog (oBi .len #[9] 3 #[false] #[s_2]) w fun t_4 w =>
    pvv prog (binOp .gtr 3 t_4 (.int .i64 0)) w fun t_5 w =>
    cd t_5 (
      pv prog (oBi .len #[9] 3 #[false] #[s_2]) w fun t_6 w =>
      pvv prog (binOp .sub 3 t_6 (.int .i64 1)) w fun t_7 w =>
      pvv prog (Instr.index 9 s_2 t_7) w fun t_8 w =>
      Calls prog 121 #[as_p1, t_8] w (Ret fun t_9 w =>
      pvv prog (Op.unary .not t_9) w fun t_10 w =>
      cd t_10 (
        k_1 [s_2] w) <|
      pv prog (oBi .len #[9] 3 #[false] #[s_2]) w fun t_11 w =>
      pvv prog (binOp .sub 3 t_11 (.int .i64 1)) w fun t_12 w =>
      pvv prog (Instr.sliceAt 9 s_2 none (some t_12) none) w fun t_13 w =>
      again_3 [t_13] w)) <|
    k_1 [s_2] w) [s_p0] w
theorem B97_eq (s_p0 as_p1 : Value) (w : World) (K : Value → World → Prop) : denFn prog Tryz.f97 T97 [s_p0, as_p1] w K = B97 s_p0 as_p1 w K := by kernel_rfl
theorem c97 {s_p0 as_p1 : Value} {w : World} {K : Value → World → Prop} (h : B97 s_p0 as_p1 w K) : Calls prog 97 #[s_p0, as_p1] w (Ret K) :=
  denFn_calls Tryz.func97 T97_ok (Eq.mpr (B97_eq s_p0 as_p1 w K) h)

-- 182 (*strings.Builder).copyCheck
def T182 : Ann := (.seq .none (.seq .none (.seq .none (.seq .none .none))))
theorem T182_ok : chkFn prog Tryz.f182 T182 = true := by kernel_rfl
def B182 (b_p0 : Value) (w : World) (K : Value → World → Prop) : Prop :=
  pv prog (oNil b_p0) w fun t_0 w =>
  pvv prog (Instr.fieldAt 227 t_0 0) w fun t_1 w =>
  ldv prog (Instr.loadAt 225 t_1) w fun t_2 w =>
  pvv prog (oEq .eql 225 (.tmp 5) (.const (.pointer none)) t_2 (.pointer none)) w fun t_3 w =>
  cd t_3 (
    efv prog (convert 225 259 b_p0) w fun t_4 w =>
    ef prog (oCall (.func (.func 191) #[] #[]) #[t_4]) w fun t_5 w =>
    efv prog (convert 259 225 t_5) w fun t_6 w =>
    pv prog (oNil b_p0) w fun t_7 w =>
    pvv prog (Instr.fieldAt 227 t_7 0) w fun t_8 w =>
    efu prog (Instr.storeAt 225 t_8 t_6) w fun u_9 w =>
    K (.tuple #[]) w) <|
  pv prog (oNil b_p0) w fun t_10 w =>
  pvv prog (Instr.fieldAt 227 t_10 0) w fun t_11 w =>
  ldv prog (Instr.loadAt 225 t_11) w fun t_12 w =>
  pvv prog (oEq .neq 225 (.tmp 17) (.tmp 18) t_12 b_p0) w fun t_13 w =>
  cd t_13 (
    False) <|
  K (.tuple #[]) w
theorem B182_eq (b_p0 : Value) (w : World) (K : Value → World → Prop) : denFn prog Tryz.f182 T182 [b_p0] w K = B182 b_p0 w K := by kernel_rfl
theorem c182 {b_p0 : Value} {w : World} {K : Value → World → Prop} (h : B182 b_p0 w K) : Calls prog 182 #[b_p0] w (Ret K) :=
  denFn_calls Tryz.func182 T182_ok (Eq.mpr (B182_eq b_p0 w K) h)

-- 93 strings.trimLeftByte
def T93 : Ann := (.seq .none (.seq (.block (.loop 65505 [0] (.seq (.seq .none (.seq .none .none)) (.block .none)))) (.seq .none .none)))
theorem T93_ok : chkFn prog Tryz.f93 T93 = true := by kernel_rfl
def B93 (s_p0 c_p1 : Value) (w : World) (K : Value → World → Prop) : Prop :=
  lp (fun σ w again_1 => pop σ fun s_0 σ => fin σ <|
    pv prog (oBi .len #[9] 3 #[false] #[s_0]) w fun t_2 w =>
    pvv prog (binOp .gtr 3 t_2 (.int .i64 0)) w fun t_3 w =>
    gate (some (t_3, true)) (fun K => K s_0 w) w fun t_4 w =>
    gate (some (t_3, true)) (fun K => pvv prog (Instr.index 9 t_4 (.int .i64 0)) w K) w fun t_5 w =>
    gate (some (t_3, true)) (fun K => K c_p1 w) w fun t_6 w =>
    gate (some (t_3, true)) (fun K => pvv prog (oEq .eql 5 (.tmp 10) (.tmp 11) t_5 t_6) w K) w fun t_7 w =>
    pv prog (oPick t_3 t_7 (.bool false)) w fun t_8 w =>
    cd t_8 (
      pvv prog (Instr.sliceAt 9 s_0 (some (.int .i64 1)) none none) w fun t_9 w =>
      again_1 [t_9] w) <|
    K s_0 w) [s_p0] w
theorem B93_eq (s_p0 c_p1 : Value) (w : World) (K : Value → World → Prop) : denFn prog Tryz.f93 T93 [s_p0, c_p1] w K = B93 s_p0 c_p1 w K := by kernel_rfl
theorem c93 {s_p0 c_p1 : Value} {w : World} {K : Value → World → Prop} (h : B93 s_p0 c_p1 w K) : Calls prog 93 #[s_p0, c_p1] w (Ret K) :=
  denFn_calls Tryz.func93 T93_ok (Eq.mpr (B93_eq s_p0 c_p1 w K) h)

-- 108 maps.Keys[map[string]bool,string,bool]$1
def T108 : Ann := (.seq .none (.block (.loop 16328 [] (.seq .none (.seq (.seq .none .none) (.block (.seq .none (.seq .none (.seq .none .none)))))))))
theorem T108_ok : chkFn prog Tryz.f108 T108 = true := by kernel_rfl
def B108 (yield_p0 x_p1 : Value) (w : World) (K : Value → World → Prop) : Prop :=
  ldv prog (Instr.loadAt 70 x_p1) w fun t_0 w =>
  efv prog (Instr.range 70 t_0) w fun t_1 w =>
  lp (fun σ w again_2 => fin σ <|
    efv prog (Instr.next t_1 false 0) w fun t_3 w =>
    pvv prog (Instr.extract t_3 0) w fun t_4 w =>
    cd t_4 (
      efv prog (Instr.entry t_1) w fun t_5 w =>
      pvv prog (Instr.extract t_5 0) w fun t_6 w =>
      ef prog (oCall yield_p0 #[t_6]) w fun t_7 w =>
      pvv prog (Op.unary .not t_7) w fun t_8 w =>
      cd t_8 (
        K (.tuple #[]) w) <|
      again_2 [] w) <|
    K (.tuple #[]) w) [] w
theorem B108_eq (yield_p0 x_p1 : Value) (w : World) (K : Value → World → Prop) : denFn prog Tryz.f108 T108 [yield_p0, x_p1] w K = B108 yield_p0 x_p1 w K := by kernel_rfl
theorem c108 {yield_p0 x_p1 : Value} {w : World} {K : Value → World → Prop} (h : B108 yield_p0 x_p1 w K) : Calls prog 108 #[yield_p0, x_p1] w (Ret K) :=
  denFn_calls Tryz.func108 T108_ok (Eq.mpr (B108_eq yield_p0 x_p1 w K) h)

-- 43 cmp.Compare[string]
def T43 : Ann := (.seq .none (.seq .none (.seq .none (.seq (.seq .none (.seq (.seq (.seq .none (.seq (.seq .none .none) .none)) (.seq .none .none)) .none)) (.seq (.seq .none (.seq (.seq .none .none) .none)) (.seq (.seq .none (.seq (.seq .none .none) .none)) (.seq (.seq .none (.seq (.seq .none .none) .none)) (.seq .none .none))))))))
theorem T43_ok : chkFn prog Tryz.f43 T43 = true := by kernel_rfl
def B43 (x_p0 y_p1 : Value) (w : World) (K : Value → World → Prop) : Prop :=
  Calls prog 65 #[x_p0] w (Ret fun t_0 w =>
  Calls prog 65 #[y_p1] w (Ret fun t_1 w =>
  cd t_0 (
    cd t_1 (
      K (.int .i64 0) w) <|
    K (.int .i64 (-1)) w) <|
  cd t_1 (
    K (.int .i64 1) w) <|
  pvv prog (binOp .lss 9 x_p0 y_p1) w fun t_2 w =>
  cd t_2 (
    K (.int .i64 (-1)) w) <|
  pvv prog (binOp .gtr 9 x_p0 y_p1) w fun t_3 w =>
  cd t_3 (
    K (.int .i64 1) w) <|
  K (.int .i64 0) w))
theorem B43_eq (x_p0 y_p1 : Value) (w : World) (K : Value → World → Prop) : denFn prog Tryz.f43 T43 [x_p0, y_p1] w K = B43 x_p0 y_p1 w K := by kernel_rfl
theorem c43 {x_p0 y_p1 : Value} {w : World} {K : Value → World → Prop} (h : B43 x_p0 y_p1 w K) : Calls prog 43 #[x_p0, y_p1] w (Ret K) :=
  denFn_calls Tryz.func43 T43_ok (Eq.mpr (B43_eq x_p0 y_p1 w K) h)

-- 179 math/bits.TrailingZeros64
def T179 : Ann := (.seq .none (.seq (.seq .none (.seq (.seq .none .none) .none)) (.seq .none .none)))
theorem T179_ok : chkFn prog Tryz.f179 T179 = true := by kernel_rfl
def B179 (x_p0 : Value) (w : World) (K : Value → World → Prop) : Prop :=
  pvv prog (oEq .eql 79 (.tmp 3) (.const (.int .u64 0)) x_p0 (.int .u64 0)) w fun t_0 w =>
  cd t_0 (
    K (.int .i64 64) w) <|
  pvv prog (Op.unary .neg x_p0) w fun t_1 w =>
  pvv prog (binOp .and 79 x_p0 t_1) w fun t_2 w =>
  pvv prog (binOp .mul 79 t_2 (.int .u64 285870213051353865)) w fun t_3 w =>
  pvv prog (binOp .shr 79 t_3 (.int .u64 58)) w fun t_4 w =>
  pvv prog (Instr.indexAt 171 (.pointer (some ⟨7, 0, none⟩)) t_4) w fun t_5 w =>
  ldv prog (Instr.loadAt 5 t_5) w fun t_6 w =>
  pvv prog (convert 5 3 t_6) w fun t_7 w =>
  K t_7 w
theorem B179_eq (x_p0 : Value) (w : World) (K : Value → World → Prop) : denFn prog Tryz.f179 T179 [x_p0] w K = B179 x_p0 w K := by kernel_rfl
theorem c179 {x_p0 : Value} {w : World} {K : Value → World → Prop} (h : B179 x_p0 w K) : Calls prog 179 #[x_p0] w (Ret K) :=
  denFn_calls Tryz.func179 T179_ok (Eq.mpr (B179_eq x_p0 w K) h)

-- 156 (*strings.Builder).WriteString
def T156 : Ann := (.seq .none (.seq .none (.seq .none (.seq .none .none))))
theorem T156_ok : chkFn prog Tryz.f156 T156 = true := by kernel_rfl
def B156 (b_p0 s_p1 : Value) (w : World) (K : Value → World → Prop) : Prop :=
  Calls prog 182 #[b_p0] w (Ret fun t_0 w =>
  pv prog (oNil b_p0) w fun t_1 w =>
  pvv prog (Instr.fieldAt 227 t_1 1) w fun t_2 w =>
  ldv prog (Instr.loadAt 22 t_2) w fun t_3 w =>
  ef prog (oBi .append #[22, 9] 22 #[false, false] #[t_3, s_p1]) w fun t_4 w =>
  pv prog (oNil b_p0) w fun t_5 w =>
  pvv prog (Instr.fieldAt 227 t_5 1) w fun t_6 w =>
  efu prog (Instr.storeAt 22 t_6 t_4) w fun u_7 w =>
  pv prog (oBi .len #[9] 3 #[false] #[s_p1]) w fun t_8 w =>
  K (.tuple #[t_8, .nilIface]) w)
theorem B156_eq (b_p0 s_p1 : Value) (w : World) (K : Value → World → Prop) : denFn prog Tryz.f156 T156 [b_p0, s_p1] w K = B156 b_p0 s_p1 w K := by kernel_rfl
theorem c156 {b_p0 s_p1 : Value} {w : World} {K : Value → World → Prop} (h : B156 b_p0 s_p1 w K) : Calls prog 156 #[b_p0, s_p1] w (Ret K) :=
  denFn_calls Tryz.func156 T156_ok (Eq.mpr (B156_eq b_p0 s_p1 w K) h)

-- 132 strconv.baseError
def T132 : Ann := (.seq .none (.seq .none .none))
theorem T132_ok : chkFn prog Tryz.f132 T132 = true := by kernel_rfl
def B132 (fn_p0 str_p1 base_p2 : Value) (w : World) (K : Value → World → Prop) : Prop :=
  Calls prog 159 #[str_p1] w (Ret fun t_0 w =>
  Calls prog 161 #[base_p2] w (Ret fun t_1 w =>
  pvv prog (binOp .add 9 (.string ⟨#[105, 110, 118, 97, 108, 105, 100, 32, 98, 97, 115, 101, 32]⟩) t_1) w fun t_2 w =>
  Calls prog 160 #[t_2] w (Ret fun t_3 w =>
  pvv prog (Instr.build 236 #[(0, fn_p0), (1, t_0), (2, t_3)]) w fun t_4 w =>
  efv prog (Instr.box 236 t_4) w fun t_5 w =>
  K t_5 w)))
theorem B132_eq (fn_p0 str_p1 base_p2 : Value) (w : World) (K : Value → World → Prop) : denFn prog Tryz.f132 T132 [fn_p0, str_p1, base_p2] w K = B132 fn_p0 str_p1 base_p2 w K := by kernel_rfl
theorem c132 {fn_p0 str_p1 base_p2 : Value} {w : World} {K : Value → World → Prop} (h : B132 fn_p0 str_p1 base_p2 w K) : Calls prog 132 #[fn_p0, str_p1, base_p2] w (Ret K) :=
  denFn_calls Tryz.func132 T132_ok (Eq.mpr (B132_eq fn_p0 str_p1 base_p2 w K) h)

-- 49 math/bits.RotateLeft32
def T49 : Ann := (.seq .none (.seq .none (.seq .none .none)))
theorem T49_ok : chkFn prog Tryz.f49 T49 = true := by kernel_rfl
def B49 (x_p0 k_p1 : Value) (w : World) (K : Value → World → Prop) : Prop :=
  pvv prog (convert 3 80 k_p1) w fun t_0 w =>
  pvv prog (binOp .and 80 t_0 (.int .u64 31)) w fun t_1 w =>
  pvv prog (binOp .shl 74 x_p0 t_1) w fun t_2 w =>
  pvv prog (binOp .sub 80 (.int .u64 32) t_1) w fun t_3 w =>
  pvv prog (binOp .shr 74 x_p0 t_3) w fun t_4 w =>
  pvv prog (binOp .or 74 t_2 t_4) w fun t_5 w =>
  K t_5 w
theorem B49_eq (x_p0 k_p1 : Value) (w : World) (K : Value → World → Prop) : denFn prog Tryz.f49 T49 [x_p0, k_p1] w K = B49 x_p0 k_p1 w K := by kernel_rfl
theorem c49 {x_p0 k_p1 : Value} {w : World} {K : Value → World → Prop} (h : B49 x_p0 k_p1 w K) : Calls prog 49 #[x_p0, k_p1] w (Ret K) :=
  denFn_calls Tryz.func49 T49_ok (Eq.mpr (B49_eq x_p0 k_p1 w K) h)

-- 26 bytes.Clone
def T26 : Ann := (.seq .none (.seq (.seq .none (.seq (.seq .none .none) .none)) (.seq .none .none)))
theorem T26_ok : chkFn prog Tryz.f26 T26 = true := by kernel_rfl
def B26 (b_p0 : Value) (w : World) (K : Value → World → Prop) : Prop :=
  pvv prog (oEq .eql 22 (.tmp 3) (.const (.slice none 0 0)) b_p0 (.slice none 0 0)) w fun t_0 w =>
  cd t_0 (
    K (.slice none 0 0) w) <|
  efv prog (Instr.buildSlice 22 0 #[]) w fun t_1 w =>
  ef prog (oBi .append #[22, 22] 22 #[false, false] #[t_1, b_p0]) w fun t_2 w =>
  K t_2 w
theorem B26_eq (b_p0 : Value) (w : World) (K : Value → World → Prop) : denFn prog Tryz.f26 T26 [b_p0] w K = B26 b_p0 w K := by kernel_rfl
theorem c26 {b_p0 : Value} {w : World} {K : Value → World → Prop} (h : B26 b_p0 w K) : Calls prog 26 #[b_p0] w (Ret K) :=
  denFn_calls Tryz.func26 T26_ok (Eq.mpr (B26_eq b_p0 w K) h)

-- 107 slices.Sort[[]string,string]
def T107 : Ann := (.seq .none .none)
theorem T107_ok : chkFn prog Tryz.f107 T107 = true := by kernel_rfl
def B107 (x_p0 : Value) (w : World) (K : Value → World → Prop) : Prop :=
  pv prog (oBi .len #[39] 3 #[false] #[x_p0]) w fun t_0 w =>
  pvv prog (convert 3 80 t_0) w fun t_1 w =>
  Calls prog 64 #[t_1] w (Ret fun t_2 w =>
  Calls prog 143 #[x_p0, (.int .i64 0), t_0, t_2] w (Ret fun t_3 w =>
  K (.tuple #[]) w))
theorem B107_eq (x_p0 : Value) (w : World) (K : Value → World → Prop) : denFn prog Tryz.f107 T107 [x_p0] w K = B107 x_p0 w K := by kernel_rfl
theorem c107 {x_p0 : Value} {w : World} {K : Value → World → Prop} (h : B107 x_p0 w K) : Calls prog 107 #[x_p0] w (Ret K) :=
  denFn_calls Tryz.func107 T107_ok (Eq.mpr (B107_eq x_p0 w K) h)

-- 121 (*strings.asciiSet).contains
def T121 : Ann := (.seq .none (.seq .none .none))
theorem T121_ok : chkFn prog Tryz.f121 T121 = true := by kernel_rfl
def B121 (as_p0 c_p1 : Value) (w : World) (K : Value → World → Prop) : Prop :=
  pv prog (oNil as_p0) w fun t_0 w =>
  pvv prog (Instr.indexAt 174 t_0 c_p1) w fun t_1 w =>
  ldv prog (Instr.loadAt 4 t_1) w fun t_2 w =>
  K t_2 w
theorem B121_eq (as_p0 c_p1 : Value) (w : World) (K : Value → World → Prop) : denFn prog Tryz.f121 T121 [as_p0, c_p1] w K = B121 as_p0 c_p1 w K := by kernel_rfl
theorem c121 {as_p0 c_p1 : Value} {w : World} {K : Value → World → Prop} (h : B121 as_p0 c_p1 w K) : Calls prog 121 #[as_p0, c_p1] w (Ret K) :=
  denFn_calls Tryz.func121 T121_ok (Eq.mpr (B121_eq as_p0 c_p1 w K) h)

-- 154 unicode/utf8.RuneStart
def T154 : Ann := (.seq .none (.seq .none .none))
theorem T154_ok : chkFn prog Tryz.f154 T154 = true := by kernel_rfl
def B154 (b_p0 : Value) (w : World) (K : Value → World → Prop) : Prop :=
  pvv prog (binOp .and 5 b_p0 (.int .u8 192)) w fun t_0 w =>
  pvv prog (oEq .neq 5 (.tmp 4) (.const (.int .u8 128)) t_0 (.int .u8 128)) w fun t_1 w =>
  K t_1 w
theorem B154_eq (b_p0 : Value) (w : World) (K : Value → World → Prop) : denFn prog Tryz.f154 T154 [b_p0] w K = B154 b_p0 w K := by kernel_rfl
theorem c154 {b_p0 : Value} {w : World} {K : Value → World → Prop} (h : B154 b_p0 w K) : Calls prog 154 #[b_p0] w (Ret K) :=
  denFn_calls Tryz.func154 T154_ok (Eq.mpr (B154_eq b_p0 w K) h)

-- 30 holdfast/audit.number
def T30 : Ann := (.seq .none (.seq .none (.seq .none .none)))
theorem T30_ok : chkFn prog Tryz.f30 T30 = true := by kernel_rfl
def B30 (n_p0 : Value) (w : World) (K : Value → World → Prop) : Prop :=
  Calls prog 52 #[n_p0] w (Ret fun t_0 w =>
  pvv prog (Instr.extract t_0 0) w fun t_1 w =>
  pvv prog (Instr.extract t_0 1) w fun t_2 w =>
  K t_1 w)
theorem B30_eq (n_p0 : Value) (w : World) (K : Value → World → Prop) : denFn prog Tryz.f30 T30 [n_p0] w K = B30 n_p0 w K := by kernel_rfl
theorem c30 {n_p0 : Value} {w : World} {K : Value → World → Prop} (h : B30 n_p0 w K) : Calls prog 30 #[n_p0] w (Ret K) :=
  denFn_calls Tryz.func30 T30_ok (Eq.mpr (B30_eq n_p0 w K) h)

-- 174 internal/stringslite.IndexByte
def T174 : Ann := (.seq .none (.seq .none .none))
theorem T174_ok : chkFn prog Tryz.f174 T174 = true := by kernel_rfl
def B174 (s_p0 c_p1 : Value) (w : World) (K : Value → World → Prop) : Prop :=
  ef prog (oCall (.func (.func 189) #[] #[]) #[s_p0, c_p1]) w fun t_0 w =>
  K t_0 w
theorem B174_eq (s_p0 c_p1 : Value) (w : World) (K : Value → World → Prop) : denFn prog Tryz.f174 T174 [s_p0, c_p1] w K = B174 s_p0 c_p1 w K := by kernel_rfl
theorem c174 {s_p0 c_p1 : Value} {w : World} {K : Value → World → Prop} (h : B174 s_p0 c_p1 w K) : Calls prog 174 #[s_p0, c_p1] w (Ret K) :=
  denFn_calls Tryz.func174 T174_ok (Eq.mpr (B174_eq s_p0 c_p1 w K) h)

-- 78 slices.Sorted[string]
def T78 : Ann := (.seq .none (.seq .none (.seq .none (.seq .none .none))))
theorem T78_ok : chkFn prog Tryz.f78 T78 = true := by kernel_rfl
def B78 (seq_p0 : Value) (w : World) (K : Value → World → Prop) : Prop :=
  Calls prog 106 #[seq_p0] w (Ret fun t_0 w =>
  Calls prog 107 #[t_0] w (Ret fun t_1 w =>
  K t_0 w))
theorem B78_eq (seq_p0 : Value) (w : World) (K : Value → World → Prop) : denFn prog Tryz.f78 T78 [seq_p0] w K = B78 seq_p0 w K := by kernel_rfl
theorem c78 {seq_p0 : Value} {w : World} {K : Value → World → Prop} (h : B78 seq_p0 w K) : Calls prog 78 #[seq_p0] w (Ret K) :=
  denFn_calls Tryz.func78 T78_ok (Eq.mpr (B78_eq seq_p0 w K) h)

-- 16 holdfast/cred.New
def T16 : Ann := (.seq .none (.seq .none .none))
theorem T16_ok : chkFn prog Tryz.f16 T16 = true := by kernel_rfl
def B16 (w : World) (K : Value → World → Prop) : Prop :=
  efv prog (Instr.makeMap 98 none) w fun t_0 w =>
  pvv prog (Instr.build 100 #[(0, t_0)]) w fun t_1 w =>
  efv prog (Instr.box 100 t_1) w fun t_2 w =>
  K t_2 w
theorem B16_eq (w : World) (K : Value → World → Prop) : denFn prog Tryz.f16 T16 [] w K = B16  w K := by kernel_rfl
theorem c16 {w : World} {K : Value → World → Prop} (h : B16  w K) : Calls prog 16 #[] w (Ret K) :=
  denFn_calls Tryz.func16 T16_ok (Eq.mpr (B16_eq  w K) h)

-- 184 internal/strconv.Itoa
def T184 : Ann := (.seq .none (.seq .none .none))
theorem T184_ok : chkFn prog Tryz.f184 T184 = true := by kernel_rfl
def B184 (i_p0 : Value) (w : World) (K : Value → World → Prop) : Prop :=
  Calls prog 92 #[i_p0, (.int .i64 10)] w (Ret fun t_0 w =>
  K t_0 w)
theorem B184_eq (i_p0 : Value) (w : World) (K : Value → World → Prop) : denFn prog Tryz.f184 T184 [i_p0] w K = B184 i_p0 w K := by kernel_rfl
theorem c184 {i_p0 : Value} {w : World} {K : Value → World → Prop} (h : B184 i_p0 w K) : Calls prog 184 #[i_p0] w (Ret K) :=
  denFn_calls Tryz.func184 T184_ok (Eq.mpr (B184_eq i_p0 w K) h)

-- 5 holdfast/audit.New
def T5 : Ann := (.seq .none (.seq .none .none))
theorem T5_ok : chkFn prog Tryz.f5 T5 = true := by kernel_rfl
def B5 (w : World) (K : Value → World → Prop) : Prop :=
  pvv prog (Instr.build 69 #[]) w fun t_0 w =>
  efv prog (Instr.box 69 t_0) w fun t_1 w =>
  K t_1 w
theorem B5_eq (w : World) (K : Value → World → Prop) : denFn prog Tryz.f5 T5 [] w K = B5  w K := by kernel_rfl
theorem c5 {w : World} {K : Value → World → Prop} (h : B5  w K) : Calls prog 5 #[] w (Ret K) :=
  denFn_calls Tryz.func5 T5_ok (Eq.mpr (B5_eq  w K) h)


end Go.Proofs.YtmnaalpjhkkglaaGreatDoor
