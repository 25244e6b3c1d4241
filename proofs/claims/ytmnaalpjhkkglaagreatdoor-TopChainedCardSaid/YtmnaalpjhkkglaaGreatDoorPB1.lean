import Derived.Test.YtmnaalpjhkkglaaGreatDoorPI
set_option linter.all false
set_option maxRecDepth 100000
namespace Go.Proofs.YtmnaalpjhkkglaaGreatDoor
open Go Hold
-- 13 holdfast/audit.Load
def T13 : Ann := (.seq .none (.seq .none (.seq (.seq (.draw [.op 0 .pure, .op 1 .pure, .op 2 .pure, .op 3 .pure, .op 4 .pure, .op 5 .pure, .op 6 .pure, .op 7 .pure, .op 8 .pure, .op 9 .pure, .op 10 .pure, .op 11 .pure, .op 12 .load, .op 13 .pure, .op 14 .pure, .op 15 .pure, .op 16 .pure, .op 17 .pure, .op 18 .pure, .op 20 .pure, .op 21 .pure, .op 22 .pure, .op 23 .pure, .op 24 .pure, .op 25 .pure, .op 26 .pure, .op 27 .pure, .op 28 .pure, .op 29 .pure, .op 30 .pure, .op 19 .load, .op 31 .eff, .op 32 .eff, .op 33 .pure, .op 34 .pure]) (.seq (.seq .none .none) .none)) (.seq (.draw [.op 0 .pure, .op 1 .pure, .op 2 .pure, .op 3 .pure, .op 5 .pure, .op 6 .pure, .op 7 .pure, .op 8 .pure, .op 10 .pure, .op 11 .pure, .op 12 .pure, .op 4 .load, .op 9 .load, .op 13 .load, .op 14 .pure, .op 15 .pure, .op 16 .pure, .op 17 .pure, .op 18 .pure, .op 19 .pure, .op 20 .pure, .op 22 .pure, .op 23 .pure, .op 24 .pure, .op 25 .pure, .op 27 .pure, .op 28 .pure, .op 21 .load, .op 26 .load, .op 29 .pure, .op 30 .pure, .op 31 .pure, .op 32 .pure, .op 33 .pure]) (.seq (.seq (.draw [.op 0 .pure, .op 1 .pure, .op 2 .pure, .op 3 .pure, .op 4 .pure, .op 6 .pure, .op 7 .pure, .op 8 .pure, .op 9 .pure, .op 5 .load, .op 10 .eff, .op 11 .pure, .op 12 .pure, .op 13 .pure, .op 14 .pure, .op 15 .pure, .op 17 .pure, .op 18 .pure, .op 19 .pure, .op 20 .pure, .op 16 .load, .op 21 .eff, .op 22 .pure, .op 23 .pure, .op 24 .pure, .op 25 .pure, .op 26 .pure, .op 28 .pure, .op 29 .pure, .op 30 .pure, .op 27 .load, .op 31 .eff, .op 32 .pure, .op 33 .pure]) (.seq (.seq .none .none) .none)) (.seq .none (.seq (.seq .none (.block (.loop 1606938044258990275541962009264412865964960937294851567780812 [6, 116] (.seq .none (.seq (.seq .none .none) (.seq (.block (.seq .none (.seq .none (.seq (.seq (.draw [.op 0 .pure, .op 2 .pure, .op 1 .load, .op 3 .load, .op 4 .eff, .op 5 .pure, .op 6 .pure, .op 7 .pure, .op 8 .pure, .op 9 .load, .op 10 .pure, .op 11 .pure, .op 12 .pure, .op 13 .pure, .op 14 .pure, .op 17 .pure, .op 15 .load, .op 16 .pure, .op 18 .eff, .op 19 .eff, .op 20 .pure, .op 21 .pure]) (.seq (.seq .none .none) .none)) (.seq (.draw [.op 0 .pure, .op 4 .pure, .op 1 .load, .op 2 .pure, .op 3 .load, .op 5 .load, .op 6 .pure, .op 7 .load, .op 8 .pure, .op 9 .eff, .op 10 .pure, .op 11 .eff]) (.seq (.seq (.draw [.op 0 .pure, .op 1 .load, .op 2 .pure, .op 3 .pure, .op 4 .pure, .op 5 .pure, .op 6 .load, .op 7 .pure, .op 8 .pure, .op 9 .pure, .op 10 .pure, .op 11 .pure, .op 13 .pure, .op 12 .load, .op 14 .pure, .op 15 .pure, .op 16 .pure, .op 17 .pure, .op 19 .pure, .op 20 .pure, .op 21 .pure, .op 18 .load, .op 22 .load, .op 23 .pure, .op 24 .pure]) (.seq (.seq .none .none) .none)) (.seq .none (.draw [.op 0 .pure, .op 1 .pure, .op 2 .pure, .op 3 .pure, .op 4 .load, .op 5 .load, .op 6 .eff, .op 7 .eff, .op 8 .pure, .op 9 .pure, .op 10 .eff])))))))) .none)))))) (.seq .none .none))))))))
theorem T13_ok : chkFn prog Tryz.f13 T13 = true := by kernel_rfl
def B13 (rows_p0 : Value) (w : World) (K : Value → World → Prop) : Prop :=
  Calls prog 5 #[] w (Ret fun t_0 w =>
  dr w fun w =>
  pv prog (oBi .len #[37] 3 #[false] #[rows_p0]) w fun t_1 w =>
  pvv prog (binOp .lss 3 t_1 (.int .i64 4)) w fun t_2 w =>
  gate (some (t_2, false)) (fun K => K rows_p0 w) w fun t_3 w =>
  gate (some (t_2, false)) (fun K => pv prog (oBi .len #[37] 3 #[false] #[t_3]) w K) w fun t_4 w =>
  gate (some (t_2, false)) (fun K => pvv prog (binOp .gtr 3 t_4 (.int .i64 68)) w K) w fun t_5 w =>
  pv prog (oPick t_2 (.bool true) t_5) w fun t_6 w =>
  gate (some (t_6, false)) (fun K => K rows_p0 w) w fun t_7 w =>
  gate (some (t_6, false)) (fun K => pvv prog (Instr.indexAt 37 t_7 (.int .i64 0)) w K) w fun t_8 w =>
  gate (some (t_6, false)) (fun K => pvv prog (Instr.fieldAt 41 t_8 0) w K) w fun t_9 w =>
  bindS (vN (Instr.loadAt 9 t_9)) fun m_11 => gate (some (t_6, false)) (fun K => ldv prog (Instr.loadAt 9 t_9) w K) w fun t_10 w =>
  gate (some (t_6, false)) (fun K => pvv prog (oEq .neq 9 (.tmp 23) (.const (.string ⟨#[35]⟩)) t_10 (.string ⟨#[35]⟩)) w K) w fun t_12 w =>
  pv prog (oPick t_6 (.bool true) t_12) w fun t_13 w =>
  gate (some (t_13, false)) (fun K => K rows_p0 w) w fun t_14 w =>
  gate (some (t_13, false)) (fun K => pvv prog (Instr.indexAt 37 t_14 (.int .i64 0)) w K) w fun t_15 w =>
  gate (some (t_13, false)) (fun K => pvv prog (Instr.fieldAt 41 t_15 1) w K) w fun t_16 w =>
  gate (some (t_13, false)) (fun K => K t_0 w) w fun t_17 w =>
  gate (some (t_13, false)) (fun K => pv prog (oNil t_17) w K) w fun t_18 w =>
  gate (some (t_13, false)) (fun K => pvv prog (Instr.fieldAt 69 t_18 0) w K) w fun t_19 w =>
  gate (some (t_13, false)) (fun K => pvv prog (Instr.fieldAt 66 t_19 0) w K) w fun t_20 w =>
  gate (some (t_13, false)) (fun K => K t_0 w) w fun t_21 w =>
  gate (some (t_13, false)) (fun K => pv prog (oNil t_21) w K) w fun t_22 w =>
  gate (some (t_13, false)) (fun K => pvv prog (Instr.fieldAt 69 t_22 1) w K) w fun t_23 w =>
  gate (some (t_13, false)) (fun K => pvv prog (Instr.fieldAt 66 t_23 0) w K) w fun t_24 w =>
  gate (some (t_13, false)) (fun K => K t_0 w) w fun t_25 w =>
  gate (some (t_13, false)) (fun K => pv prog (oNil t_25) w K) w fun t_26 w =>
  gate (some (t_13, false)) (fun K => pvv prog (Instr.fieldAt 69 t_26 3) w K) w fun t_27 w =>
  bindS (vN (Instr.loadAt 39 t_16)) fun m_29 => gate (some (t_13, false)) (fun K => ldv prog (Instr.loadAt 39 t_16) w K) w fun t_28 w =>
  gate (some (t_13, false)) (fun K => efv prog (Instr.buildSlice 133 3 #[(0, t_20), (1, t_24), (2, t_27)]) w fun s_213 w => stay prog (some (t_13, false)) m_29 t_28 w <| stay prog (some (t_6, false)) m_11 t_10 w <| K s_213 w) w fun t_30 w =>
  gate (some (t_13, false)) (fun K => Calls prog 35 #[t_28, t_30] w (Ret fun s_212 w => stay prog (some (t_6, false)) m_11 t_10 w <| K s_212 w)) w fun t_31 w =>
  gate (some (t_13, false)) (fun K => pvv prog (Op.unary .not t_31) w K) w fun t_32 w =>
  pv prog (oPick t_13 (.bool true) t_32) w fun t_33 w =>
  cd t_33 (
    K (.tuple #[(.pointer none), (.int .i64 3)]) w) <|
  dr w fun w =>
  pv prog (oNil t_0) w fun t_34 w =>
  pvv prog (Instr.fieldAt 69 t_34 0) w fun t_35 w =>
  pvv prog (Instr.fieldAt 66 t_35 0) w fun t_36 w =>
  pv prog (oNil t_0) w fun t_37 w =>
  pvv prog (Instr.fieldAt 69 t_37 1) w fun t_38 w =>
  pvv prog (Instr.fieldAt 66 t_38 0) w fun t_39 w =>
  pv prog (oNil t_0) w fun t_40 w =>
  pvv prog (Instr.fieldAt 69 t_40 3) w fun t_41 w =>
  bindS (vN (Instr.loadAt 3 t_36)) fun m_43 => ldv prog (Instr.loadAt 3 t_36) w fun t_42 w =>
  bindS (vN (Instr.loadAt 3 t_39)) fun m_45 => ldv prog (Instr.loadAt 3 t_39) w fun t_44 w =>
  bindS (vN (Instr.loadAt 3 t_41)) fun m_47 => ldv prog (Instr.loadAt 3 t_41) w fun t_46 w =>
  pv prog (oBi .max #[3, 3, 3] 3 #[false, false, false] #[t_42, t_44, t_46]) w fun t_48 w =>
  pvv prog (binOp .leq 3 t_48 (.int .i64 1099511627776)) w fun t_49 w =>
  gate (some (t_49, true)) (fun K => K t_0 w) w fun t_50 w =>
  gate (some (t_49, true)) (fun K => pv prog (oNil t_50) w K) w fun t_51 w =>
  gate (some (t_49, true)) (fun K => pvv prog (Instr.fieldAt 69 t_51 1) w K) w fun t_52 w =>
  gate (some (t_49, true)) (fun K => pvv prog (Instr.fieldAt 66 t_52 0) w K) w fun t_53 w =>
  gate (some (t_49, true)) (fun K => K t_0 w) w fun t_54 w =>
  gate (some (t_49, true)) (fun K => pv prog (oNil t_54) w K) w fun t_55 w =>
  gate (some (t_49, true)) (fun K => pvv prog (Instr.fieldAt 69 t_55 0) w K) w fun t_56 w =>
  gate (some (t_49, true)) (fun K => pvv prog (Instr.fieldAt 66 t_56 0) w K) w fun t_57 w =>
  gate (some (t_49, true)) (fun K => K rows_p0 w) w fun t_58 w =>
  gate (some (t_49, true)) (fun K => pv prog (oBi .len #[37] 3 #[false] #[t_58]) w K) w fun t_59 w =>
  bindS (vN (Instr.loadAt 3 t_53)) fun m_61 => gate (some (t_49, true)) (fun K => ldv prog (Instr.loadAt 3 t_53) w K) w fun t_60 w =>
  bindS (vN (Instr.loadAt 3 t_57)) fun m_63 => gate (some (t_49, true)) (fun K => ldv prog (Instr.loadAt 3 t_57) w K) w fun t_62 w =>
  gate (some (t_49, true)) (fun K => pvv prog (binOp .add 3 t_62 t_59) w K) w fun t_64 w =>
  gate (some (t_49, true)) (fun K => pvv prog (binOp .sub 3 t_64 (.int .i64 4)) w K) w fun t_65 w =>
  gate (some (t_49, true)) (fun K => pvv prog (binOp .leq 3 t_60 t_65) w K) w fun t_66 w =>
  pv prog (oPick t_49 t_66 (.bool false)) w fun t_67 w =>
  dr w fun w =>
  pvv prog (Op.unary .not t_67) w fun t_68 w =>
  gate (some (t_68, false)) (fun K => K rows_p0 w) w fun t_69 w =>
  gate (some (t_68, false)) (fun K => pvv prog (Instr.indexAt 37 t_69 (.int .i64 1)) w K) w fun t_70 w =>
  gate (some (t_68, false)) (fun K => K t_0 w) w fun t_71 w =>
  gate (some (t_68, false)) (fun K => pv prog (oNil t_71) w K) w fun t_72 w =>
  gate (some (t_68, false)) (fun K => pvv prog (Instr.fieldAt 69 t_72 1) w K) w fun t_73 w =>
  gate (some (t_68, false)) (fun K => pvv prog (Instr.fieldAt 66 t_73 1) w K) w fun t_74 w =>
  bindS (vN (Instr.loadAt 41 t_70)) fun m_76 => gate (some (t_68, false)) (fun K => ldv prog (Instr.loadAt 41 t_70) w K) w fun t_75 w =>
  gate (some (t_68, false)) (fun K => Calls prog 36 #[t_75, (.string ⟨#[97]⟩), t_74] w (Ret fun s_211 w => K s_211 w)) w fun t_77 w =>
  gate (some (t_68, false)) (fun K => pvv prog (Op.unary .not t_77) w K) w fun t_78 w =>
  pv prog (oPick t_68 (.bool true) t_78) w fun t_79 w =>
  gate (some (t_79, false)) (fun K => K rows_p0 w) w fun t_80 w =>
  gate (some (t_79, false)) (fun K => pvv prog (Instr.indexAt 37 t_80 (.int .i64 2)) w K) w fun t_81 w =>
  gate (some (t_79, false)) (fun K => K t_0 w) w fun t_82 w =>
  gate (some (t_79, false)) (fun K => pv prog (oNil t_82) w K) w fun t_83 w =>
  gate (some (t_79, false)) (fun K => pvv prog (Instr.fieldAt 69 t_83 0) w K) w fun t_84 w =>
  gate (some (t_79, false)) (fun K => pvv prog (Instr.fieldAt 66 t_84 1) w K) w fun t_85 w =>
  bindS (vN (Instr.loadAt 41 t_81)) fun m_87 => gate (some (t_79, false)) (fun K => ldv prog (Instr.loadAt 41 t_81) w K) w fun t_86 w =>
  gate (some (t_79, false)) (fun K => Calls prog 36 #[t_86, (.string ⟨#[98]⟩), t_85] w (Ret fun s_210 w => stay prog (some (t_68, false)) m_76 t_75 w <| K s_210 w)) w fun t_88 w =>
  gate (some (t_79, false)) (fun K => pvv prog (Op.unary .not t_88) w K) w fun t_89 w =>
  pv prog (oPick t_79 (.bool true) t_89) w fun t_90 w =>
  gate (some (t_90, false)) (fun K => K rows_p0 w) w fun t_91 w =>
  gate (some (t_90, false)) (fun K => pvv prog (Instr.indexAt 37 t_91 (.int .i64 3)) w K) w fun t_92 w =>
  gate (some (t_90, false)) (fun K => K t_0 w) w fun t_93 w =>
  gate (some (t_90, false)) (fun K => pv prog (oNil t_93) w K) w fun t_94 w =>
  gate (some (t_90, false)) (fun K => pvv prog (Instr.fieldAt 69 t_94 2) w K) w fun t_95 w =>
  bindS (vN (Instr.loadAt 41 t_92)) fun m_97 => gate (some (t_90, false)) (fun K => ldv prog (Instr.loadAt 41 t_92) w K) w fun t_96 w =>
  gate (some (t_90, false)) (fun K => Calls prog 36 #[t_96, (.string ⟨#[104]⟩), t_95] w (Ret fun s_209 w => stay prog (some (t_79, false)) m_87 t_86 w <| stay prog (some (t_68, false)) m_76 t_75 w <| K s_209 w)) w fun t_98 w =>
  gate (some (t_90, false)) (fun K => pvv prog (Op.unary .not t_98) w K) w fun t_99 w =>
  pv prog (oPick t_90 (.bool true) t_99) w fun t_100 w =>
  cd t_100 (
    K (.tuple #[(.pointer none), (.int .i64 3)]) w) <|
  pvv prog (Instr.sliceAt 37 rows_p0 (some (.int .i64 4)) none none) w fun t_101 w =>
  pv prog (oBi .len #[37] 3 #[false] #[t_101]) w fun t_102 w =>
  lp (fun σ w again_105 => pop σ fun before_103 σ => pop σ fun t_104 σ => fin σ <|
    pvv prog (binOp .lss 3 t_104 t_102) w fun t_106 w =>
    cd t_106 (
      pvv prog (Instr.indexAt 37 t_101 t_104) w fun t_107 w =>
      ldv prog (Instr.loadAt 41 t_107) w fun t_108 w =>
      efv prog (Instr.alloc 41 true (.tuple #[])) w fun r_109 w =>
      efu prog (Instr.storeAt 41 r_109 t_108) w fun u_110 w =>
      pv prog (oNil t_0) w fun t_111 w =>
      pvv prog (Instr.fieldAt 69 t_111 0) w fun t_112 w =>
      pvv prog (Instr.fieldAt 66 t_112 0) w fun t_113 w =>
      ldv prog (Instr.loadAt 3 t_113) w fun t_114 w =>
      pvv prog (binOp .add 3 t_114 t_104) w fun t_115 w =>
      pvv prog (binOp .add 3 t_115 (.int .i64 1)) w fun t_116 w =>
      pvv prog (Instr.build 31 #[(0, t_116)]) w fun t_117 w =>
      efv prog (Instr.alloc 31 true (.tuple #[])) w fun x_118 w =>
      efu prog (Instr.storeAt 31 x_118 t_117) w fun u_119 w =>
      dr w fun w =>
      pvv prog (Instr.fieldAt 41 r_109 0) w fun t_120 w =>
      pvv prog (Instr.fieldAt 31 x_118 0) w fun t_121 w =>
      bindS (vN (Instr.loadAt 9 t_120)) fun m_123 => ldv prog (Instr.loadAt 9 t_120) w fun t_122 w =>
      bindS (vN (Instr.loadAt 3 t_121)) fun m_125 => ldv prog (Instr.loadAt 3 t_121) w fun t_124 w =>
      Calls prog 30 #[t_124] w (Ret fun t_126 w => stay prog none m_123 t_122 w <| 
      pvv prog (binOp .add 9 (.string ⟨#[110]⟩) t_126) w fun t_127 w =>
      pvv prog (oEq .neq 9 (.tmp 131) (.tmp 135) t_122 t_127) w fun t_128 w =>
      gate (some (t_128, false)) (fun K => pvv prog (Instr.fieldAt 41 r_109 1) w K) w fun t_129 w =>
      bindS (vN (Instr.loadAt 39 t_129)) fun m_131 => gate (some (t_128, false)) (fun K => ldv prog (Instr.loadAt 39 t_129) w K) w fun t_130 w =>
      gate (some (t_128, false)) (fun K => pv prog (oBi .len #[39] 3 #[false] #[t_130]) w K) w fun t_132 w =>
      gate (some (t_128, false)) (fun K => pvv prog (oEq .neq 3 (.tmp 140) (.const (.int .i64 3)) t_132 (.int .i64 3)) w K) w fun t_133 w =>
      pv prog (oPick t_128 (.bool true) t_133) w fun t_134 w =>
      gate (some (t_134, false)) (fun K => pvv prog (Instr.fieldAt 41 r_109 1) w K) w fun t_135 w =>
      gate (some (t_134, false)) (fun K => pvv prog (Instr.fieldAt 31 x_118 1) w K) w fun t_136 w =>
      bindS (vN (Instr.loadAt 39 t_135)) fun m_138 => gate (some (t_134, false)) (fun K => ldv prog (Instr.loadAt 39 t_135) w K) w fun t_137 w =>
      gate (some (t_134, false)) (fun K => pvv prog (Instr.sliceAt 39 t_137 none (some (.int .i64 1)) none) w K) w fun t_139 w =>
      gate (some (t_134, false)) (fun K => efv prog (Instr.buildSlice 133 1 #[(0, t_136)]) w fun s_207 w => stay prog (some (t_134, false)) m_138 t_137 w <| stay prog (some (t_128, false)) m_131 t_130 w <| stay prog none m_125 t_124 w <| stay prog none m_123 t_122 w <| K s_207 w) w fun t_140 w =>
      gate (some (t_134, false)) (fun K => Calls prog 35 #[t_139, t_140] w (Ret fun s_206 w => stay prog (some (t_134, false)) m_138 t_137 w <| stay prog (some (t_128, false)) m_131 t_130 w <| stay prog none m_125 t_124 w <| stay prog none m_123 t_122 w <| K s_206 w)) w fun t_141 w =>
      gate (some (t_134, false)) (fun K => pvv prog (Op.unary .not t_141) w K) w fun t_142 w =>
      pv prog (oPick t_134 (.bool true) t_142) w fun t_143 w =>
      cd t_143 (
        K (.tuple #[(.pointer none), (.int .i64 3)]) w) <|
      dr w fun w =>
      pvv prog (Instr.fieldAt 41 r_109 1) w fun t_144 w =>
      pvv prog (Instr.fieldAt 41 r_109 1) w fun t_145 w =>
      bindS (vN (Instr.loadAt 39 t_144)) fun m_147 => ldv prog (Instr.loadAt 39 t_144) w fun t_146 w =>
      pvv prog (Instr.indexAt 39 t_146 (.int .i64 1)) w fun t_148 w =>
      bindS (vN (Instr.loadAt 9 t_148)) fun m_150 => ldv prog (Instr.loadAt 9 t_148) w fun t_149 w =>
      bindS (vN (Instr.loadAt 39 t_145)) fun m_152 => ldv prog (Instr.loadAt 39 t_145) w fun t_151 w =>
      pvv prog (Instr.indexAt 39 t_151 (.int .i64 2)) w fun t_153 w =>
      bindS (vN (Instr.loadAt 9 t_153)) fun m_155 => ldv prog (Instr.loadAt 9 t_153) w fun t_154 w =>
      pvv prog (Instr.fieldAt 31 x_118 2) w fun t_156 w =>
      efu prog (Instr.storeAt 9 t_156 t_149) w fun u_157 w => stay prog none m_152 t_151 w <| 
      pvv prog (Instr.fieldAt 31 x_118 3) w fun t_158 w =>
      efu prog (Instr.storeAt 9 t_158 t_154) w fun u_159 w =>
      dr w fun w =>
      pvv prog (Instr.fieldAt 31 x_118 2) w fun t_160 w =>
      bindS (vN (Instr.loadAt 9 t_160)) fun m_162 => ldv prog (Instr.loadAt 9 t_160) w fun t_161 w =>
      pv prog (oBi .len #[9] 3 #[false] #[t_161]) w fun t_163 w =>
      pvv prog (binOp .gtr 3 t_163 (.int .i64 12)) w fun t_164 w =>
      gate (some (t_164, false)) (fun K => pvv prog (Instr.fieldAt 31 x_118 3) w K) w fun t_165 w =>
      bindS (vN (Instr.loadAt 9 t_165)) fun m_167 => gate (some (t_164, false)) (fun K => ldv prog (Instr.loadAt 9 t_165) w K) w fun t_166 w =>
      gate (some (t_164, false)) (fun K => pv prog (oBi .len #[9] 3 #[false] #[t_166]) w K) w fun t_168 w =>
      gate (some (t_164, false)) (fun K => pvv prog (binOp .gtr 3 t_168 (.int .i64 30)) w K) w fun t_169 w =>
      pv prog (oPick t_164 (.bool true) t_169) w fun t_170 w =>
      gate (some (t_170, false)) (fun K => pvv prog (Instr.fieldAt 31 x_118 1) w K) w fun t_171 w =>
      gate (some (t_170, false)) (fun K => K before_103 w) w fun t_172 w =>
      bindS (vN (Instr.loadAt 3 t_171)) fun m_174 => gate (some (t_170, false)) (fun K => ldv prog (Instr.loadAt 3 t_171) w K) w fun t_173 w =>
      gate (some (t_170, false)) (fun K => pvv prog (binOp .lss 3 t_173 t_172) w K) w fun t_175 w =>
      pv prog (oPick t_170 (.bool true) t_175) w fun t_176 w =>
      gate (some (t_176, false)) (fun K => pvv prog (Instr.fieldAt 31 x_118 1) w K) w fun t_177 w =>
      gate (some (t_176, false)) (fun K => K t_0 w) w fun t_178 w =>
      gate (some (t_176, false)) (fun K => pv prog (oNil t_178) w K) w fun t_179 w =>
      gate (some (t_176, false)) (fun K => pvv prog (Instr.fieldAt 69 t_179 3) w K) w fun t_180 w =>
      bindS (vN (Instr.loadAt 3 t_177)) fun m_182 => gate (some (t_176, false)) (fun K => ldv prog (Instr.loadAt 3 t_177) w K) w fun t_181 w =>
      bindS (vN (Instr.loadAt 3 t_180)) fun m_184 => gate (some (t_176, false)) (fun K => ldv prog (Instr.loadAt 3 t_180) w K) w fun t_183 w =>
      gate (some (t_176, false)) (fun K => pvv prog (binOp .gtr 3 t_181 t_183) w K) w fun t_185 w =>
      pv prog (oPick t_176 (.bool true) t_185) w fun t_186 w =>
      cd t_186 (
        K (.tuple #[(.pointer none), (.int .i64 3)]) w) <|
      pvv prog (Instr.fieldAt 31 x_118 1) w fun t_187 w =>
      ldv prog (Instr.loadAt 3 t_187) w fun t_188 w =>
      dr w fun w =>
      pv prog (oNil t_0) w fun t_189 w =>
      pvv prog (Instr.fieldAt 69 t_189 4) w fun t_190 w =>
      bindS (vN (Instr.loadAt 67 t_190)) fun m_192 => ldv prog (Instr.loadAt 67 t_190) w fun t_191 w =>
      bindS (vN (Instr.loadAt 31 x_118)) fun m_194 => ldv prog (Instr.loadAt 31 x_118) w fun t_193 w =>
      efv prog (Instr.buildSlice 67 1 #[(0, t_193)]) w fun t_195 w => stay prog none m_192 t_191 w <| 
      ef prog (oBi .append #[67, 67] 67 #[false, false] #[t_191, t_195]) w fun t_196 w => stay prog none m_194 t_193 w <| 
      pv prog (oNil t_0) w fun t_197 w =>
      pvv prog (Instr.fieldAt 69 t_197 4) w fun t_198 w =>
      efu prog (Instr.storeAt 67 t_198 t_196) w fun u_199 w =>
      pvv prog (binOp .add 3 t_104 (.int .i64 1)) w fun t_200 w =>
      again_105 [t_188, t_200] w)) <|
    K (.tuple #[t_0, (.int .i64 0)]) w) [(.int .i64 0), (.int .i64 0)] w)
theorem B13_eq (rows_p0 : Value) (w : World) (K : Value → World → Prop) : denFn prog Tryz.f13 T13 [rows_p0] w K = B13 rows_p0 w K := by kernel_rfl
theorem c13 {rows_p0 : Value} {w : World} {K : Value → World → Prop} (h : B13 rows_p0 w K) : Calls prog 13 #[rows_p0] w (Ret K) :=
  denFn_calls Tryz.func13 T13_ok (Eq.mpr (B13_eq rows_p0 w K) h)

-- 147 internal/stringslite.Index
def T147 : Ann := (.seq .none (.seq .none (.seq (.block (.seq .none (.seq (.seq .none .none) (.seq .none (.seq (.seq .none .none) (.seq .none (.seq (.seq .none .none) (.seq .none (.seq (.seq .none .none) .none))))))))) (.seq .none (.seq .none (.seq .none (.seq .none (.seq .none (.seq (.block (.loop 11150372599265311570767858992208992677149968 [8, 10] (.seq (.seq .none (.seq .none .none)) (.block (.meet 302230301982152686831888 [8] (.seq .none (.seq (.seq .none (.seq (.seq .none (.seq (.seq .none .none) .none)) .none)) .none)) (.seq (.seq .none (.seq (.seq .none .none) .none)) (.seq .none (.seq .none (.seq .none (.seq (.seq .none (.seq (.seq .none (.seq (.seq .none .none) .none)) (.seq .none .none))) (.seq .none (.seq (.seq .none (.seq (.seq .none (.seq (.seq .none .none) .none)) (.seq .none .none))) .none)))))))))))) (.seq .none .none))))))))))
theorem T147_ok : chkFn prog Tryz.f147 T147 = true := by kernel_rfl
def B147 (s_p0 substr_p1 : Value) (w : World) (K : Value → World → Prop) : Prop :=
  pv prog (oBi .len #[9] 3 #[false] #[substr_p1]) w fun t_0 w =>
  pvv prog (oEq .eql 3 (.tmp 17) (.const (.int .i64 0)) t_0 (.int .i64 0)) w fun t_1 w =>
  gate (some (t_1, false)) (fun K => K substr_p1 w) w fun t_2 w =>
  gate (some (t_1, false)) (fun K => K s_p0 w) w fun t_3 w =>
  gate (some (t_1, false)) (fun K => pvv prog (oEq .eql 9 (.tmp 20) (.tmp 21) t_2 t_3) w K) w fun t_4 w =>
  pv prog (oPick t_1 (.bool true) t_4) w fun t_5 w =>
  cd t_5 (
    K (.int .i64 0) w) <|
  pvv prog (oEq .eql 3 (.tmp 25) (.const (.int .i64 1)) t_0 (.int .i64 1)) w fun t_6 w =>
  cd t_6 (
    pvv prog (Instr.index 9 substr_p1 (.int .i64 0)) w fun t_7 w =>
    Calls prog 174 #[s_p0, t_7] w (Ret fun t_8 w =>
    K t_8 w)) <|
  pv prog (oBi .len #[9] 3 #[false] #[s_p0]) w fun t_9 w =>
  pvv prog (binOp .geq 3 t_0 t_9) w fun t_10 w =>
  cd t_10 (
    K (.int .i64 (-1)) w) <|
  ldv prog (Instr.loadAt 3 (.pointer (some ⟨3, 0, none⟩))) w fun t_11 w =>
  pvv prog (binOp .leq 3 t_0 t_11) w fun t_12 w =>
  gate (some (t_12, true)) (fun K => K s_p0 w) w fun t_13 w =>
  gate (some (t_12, true)) (fun K => pv prog (oBi .len #[9] 3 #[false] #[t_13]) w K) w fun t_14 w =>
  gate (some (t_12, true)) (fun K => pvv prog (binOp .leq 3 t_14 (.int .i64 64)) w K) w fun t_15 w =>
  pv prog (oPick t_12 t_15 (.bool false)) w fun t_16 w =>
  cd t_16 (
    ef prog (oCall (.func (.func 175) #[] #[]) #[s_p0, substr_p1]) w fun t_17 w =>
    K t_17 w) <|
  pvv prog (Instr.index 9 substr_p1 (.int .i64 0)) w fun t_18 w =>
  pvv prog (Instr.index 9 substr_p1 (.int .i64 1)) w fun t_19 w =>
  pv prog (oBi .len #[9] 3 #[false] #[s_p0]) w fun t_20 w =>
  pvv prog (binOp .sub 3 t_20 t_0) w fun t_21 w =>
  pvv prog (binOp .add 3 t_21 (.int .i64 1)) w fun t_22 w =>
  lp (fun σ w again_25 => pop σ fun i_23 σ => pop σ fun fails_24 σ => fin σ <|
    pvv prog (binOp .lss 3 i_23 t_22) w fun t_26 w =>
    cd t_26 (
      jn (fun σ w => pop σ fun i_27 σ => fin σ <|
        pvv prog (binOp .add 3 i_27 (.int .i64 1)) w fun t_28 w =>
        pvv prog (Instr.index 9 s_p0 t_28) w fun t_29 w =>
        pvv prog (oEq .eql 5 (.tmp 81) (.tmp 82) t_29 t_19) w fun t_30 w =>
        gate (some (t_30, true)) (fun K => K s_p0 w) w fun t_31 w =>
        gate (some (t_30, true)) (fun K => K i_27 w) w fun t_32 w =>
        gate (some (t_30, true)) (fun K => K i_27 w) w fun t_33 w =>
        gate (some (t_30, true)) (fun K => K t_0 w) w fun t_34 w =>
        gate (some (t_30, true)) (fun K => pvv prog (binOp .add 3 t_33 t_34) w K) w fun t_35 w =>
        gate (some (t_30, true)) (fun K => pvv prog (Instr.sliceAt 9 t_31 (some t_32) (some t_35) none) w K) w fun t_36 w =>
        gate (some (t_30, true)) (fun K => K substr_p1 w) w fun t_37 w =>
        gate (some (t_30, true)) (fun K => pvv prog (oEq .eql 9 (.tmp 90) (.tmp 91) t_36 t_37) w K) w fun t_38 w =>
        pv prog (oPick t_30 t_38 (.bool false)) w fun t_39 w =>
        cd t_39 (
          K i_27 w) <|
        pvv prog (binOp .add 3 i_27 (.int .i64 1)) w fun t_40 w =>
        pvv prog (binOp .add 3 fails_24 (.int .i64 1)) w fun t_41 w =>
        ldv prog (Instr.loadAt 3 (.pointer (some ⟨3, 0, none⟩))) w fun t_42 w =>
        pvv prog (binOp .leq 3 t_0 t_42) w fun t_43 w =>
        gate (some (t_43, true)) (fun K => K t_41 w) w fun t_44 w =>
        gate (some (t_43, true)) (fun K => K t_40 w) w fun t_45 w =>
        gate (some (t_43, true)) (fun K => Calls prog 176 #[t_45] w (Ret K)) w fun t_46 w =>
        gate (some (t_43, true)) (fun K => pvv prog (binOp .gtr 3 t_44 t_46) w K) w fun t_47 w =>
        pv prog (oPick t_43 t_47 (.bool false)) w fun t_48 w =>
        cd t_48 (
          pvv prog (Instr.sliceAt 9 s_p0 (some t_40) none none) w fun t_49 w =>
          ef prog (oCall (.func (.func 175) #[] #[]) #[t_49, substr_p1]) w fun t_50 w =>
          pvv prog (binOp .geq 3 t_50 (.int .i64 0)) w fun t_51 w =>
          cd t_51 (
            pvv prog (binOp .add 3 t_50 t_40) w fun t_52 w =>
            K t_52 w) <|
          K (.int .i64 (-1)) w) <|
        ldv prog (Instr.loadAt 3 (.pointer (some ⟨3, 0, none⟩))) w fun t_53 w =>
        pvv prog (binOp .gtr 3 t_0 t_53) w fun t_54 w =>
        gate (some (t_54, true)) (fun K => K t_41 w) w fun t_55 w =>
        gate (some (t_54, true)) (fun K => K t_40 w) w fun t_56 w =>
        gate (some (t_54, true)) (fun K => pvv prog (binOp .shr 3 t_56 (.int .u64 4)) w K) w fun t_57 w =>
        gate (some (t_54, true)) (fun K => pvv prog (binOp .add 3 (.int .i64 4) t_57) w K) w fun t_58 w =>
        gate (some (t_54, true)) (fun K => pvv prog (binOp .geq 3 t_55 t_58) w K) w fun t_59 w =>
        pv prog (oPick t_54 t_59 (.bool false)) w fun t_60 w =>
        gate (some (t_60, true)) (fun K => K t_40 w) w fun t_61 w =>
        gate (some (t_60, true)) (fun K => K t_22 w) w fun t_62 w =>
        gate (some (t_60, true)) (fun K => pvv prog (binOp .lss 3 t_61 t_62) w K) w fun t_63 w =>
        pv prog (oPick t_60 t_63 (.bool false)) w fun t_64 w =>
        cd t_64 (
          pvv prog (Instr.sliceAt 9 s_p0 (some t_40) none none) w fun t_65 w =>
          Calls prog 177 #[t_65, substr_p1] w (Ret fun t_66 w =>
          pvv prog (binOp .lss 3 t_66 (.int .i64 0)) w fun t_67 w =>
          cd t_67 (
            K (.int .i64 (-1)) w) <|
          pvv prog (binOp .add 3 t_40 t_66) w fun t_68 w =>
          K t_68 w)) <|
        again_25 [t_40, t_41] w) fun k_69 =>
      pvv prog (Instr.index 9 s_p0 i_23) w fun t_70 w =>
      pvv prog (oEq .neq 5 (.tmp 62) (.tmp 63) t_70 t_18) w fun t_71 w =>
      cd t_71 (
        pvv prog (binOp .add 3 i_23 (.int .i64 1)) w fun t_72 w =>
        pvv prog (Instr.sliceAt 9 s_p0 (some t_72) (some t_22) none) w fun t_73 w =>
        Calls prog 174 #[t_73, t_18] w (Ret fun t_74 w =>
        pvv prog (binOp .lss 3 t_74 (.int .i64 0)) w fun t_75 w =>
        cd t_75 (
          K (.int .i64 (-1)) w) <|
        pvv prog (binOp .add 3 t_74 (.int .i64 1)) w fun t_76 w =>
        pvv prog (binOp .add 3 i_23 t_76) w fun t_77 w =>
        k_69 [t_77] w)) <|
      k_69 [i_23] w) <|
    K (.int .i64 (-1)) w) [(.int .i64 0), (.int .i64 0)] w
theorem B147_eq (s_p0 substr_p1 : Value) (w : World) (K : Value → World → Prop) : denFn prog Tryz.f147 T147 [s_p0, substr_p1] w K = B147 s_p0 substr_p1 w K := by kernel_rfl
theorem c147 {s_p0 substr_p1 : Value} {w : World} {K : Value → World → Prop} (h : B147 s_p0 substr_p1 w K) : Calls prog 147 #[s_p0, substr_p1] w (Ret K) :=
  denFn_calls Tryz.func147 T147_ok (Eq.mpr (B147_eq s_p0 substr_p1 w K) h)

-- 7 holdfast/hash.Sum
def T7 : Ann := (.seq .none (.seq .none (.seq .none (.seq .none (.seq (.block (.loop 33488897 [0] (.seq (.seq .none (.seq .none .none)) (.seq (.block .none) .none)))) (.seq .none (.seq .none (.seq (.seq .none (.block (.loop 281440616972480 [6, 35] (.seq .none (.seq (.seq .none .none) (.seq (.block (.seq .none .none)) .none)))))) (.seq (.block (.loop 143833713099145280 [6] (.seq (.seq .none (.seq .none .none)) (.seq (.block .none) .none)))) (.seq (.seq .none (.block (.loop 618970019354459761297851136 [58] (.seq .none (.seq (.seq .none .none) (.seq (.block (.seq .none .none)) .none)))))) (.seq .none .none)))))))))))
theorem T7_ok : chkFn prog Tryz.f7 T7 = true := by kernel_rfl
def B7 (b_p0 : Value) (w : World) (K : Value → World → Prop) : Prop :=
  efv prog (Instr.alloc 28 true (.tuple #[])) w fun out_0 w =>
  pvv prog (Instr.build 76 #[(0, (.int .u32 1779033703)), (1, (.int .u32 3144134277)), (2, (.int .u32 1013904242)), (3, (.int .u32 2773480762)), (4, (.int .u32 1359893119)), (5, (.int .u32 2600822924)), (6, (.int .u32 528734635)), (7, (.int .u32 1541459225))]) w fun t_1 w =>
  efv prog (Instr.alloc 76 true (.tuple #[])) w fun h_2 w =>
  efu prog (Instr.storeAt 76 h_2 t_1) w fun u_3 w =>
  Calls prog 24 #[] w (Ret fun t_4 w =>
  pv prog (oBi .len #[22] 3 #[false] #[b_p0]) w fun t_5 w =>
  pvv prog (convert 3 79 t_5) w fun t_6 w =>
  pvv prog (binOp .shl 79 t_6 (.int .u64 3)) w fun t_7 w =>
  lp (fun σ w again_9 => pop σ fun b_8 σ => fin σ <|
    pv prog (oBi .len #[22] 3 #[false] #[b_8]) w fun t_10 w =>
    pvv prog (binOp .geq 3 t_10 (.int .i64 64)) w fun t_11 w =>
    cd t_11 (
      ldv prog (Instr.loadAt 76 h_2) w fun t_12 w =>
      Calls prog 25 #[t_12, t_4, b_8] w (Ret fun t_13 w =>
      efu prog (Instr.storeAt 76 h_2 t_13) w fun u_14 w =>
      pvv prog (Instr.sliceAt 22 b_8 (some (.int .i64 64)) none none) w fun t_15 w =>
      again_9 [t_15] w)) <|
    Calls prog 26 #[b_8] w (Ret fun t_16 w =>
    efv prog (Instr.buildSlice 22 1 #[(0, (.int .u8 128))]) w fun t_17 w =>
    ef prog (oBi .append #[22, 22] 22 #[false, false] #[t_16, t_17]) w fun t_18 w =>
    pv prog (oBi .len #[22] 3 #[false] #[b_8]) w fun t_19 w =>
    pvv prog (binOp .sub 3 (.int .i64 119) t_19) w fun t_20 w =>
    pvv prog (binOp .rem 3 t_20 (.int .i64 64)) w fun t_21 w =>
    ef prog (oBi .append #[22, 3] 22 #[false, false] #[t_18, t_21]) w fun t_22 w =>
    lp (fun σ w again_25 => pop σ fun end_23 σ => pop σ fun t_24 σ => fin σ <|
      pvv prog (binOp .lss 3 t_24 (.int .i64 8)) w fun t_26 w =>
      cd t_26 (
        pvv prog (binOp .mul 3 (.int .i64 8) t_24) w fun t_27 w =>
        pvv prog (binOp .sub 3 (.int .i64 56) t_27) w fun t_28 w =>
        pvv prog (binOp .shr 79 t_7 t_28) w fun t_29 w =>
        pvv prog (convert 79 5 t_29) w fun t_30 w =>
        efv prog (Instr.buildSlice 22 1 #[(0, t_30)]) w fun t_31 w =>
        ef prog (oBi .append #[22, 22] 22 #[false, false] #[end_23, t_31]) w fun t_32 w =>
        pvv prog (binOp .add 3 t_24 (.int .i64 1)) w fun t_33 w =>
        again_25 [t_32, t_33] w) <|
      lp (fun σ w again_35 => pop σ fun end_34 σ => fin σ <|
        pv prog (oBi .len #[22] 3 #[false] #[end_34]) w fun t_36 w =>
        pvv prog (binOp .gtr 3 t_36 (.int .i64 0)) w fun t_37 w =>
        cd t_37 (
          ldv prog (Instr.loadAt 76 h_2) w fun t_38 w =>
          Calls prog 25 #[t_38, t_4, end_34] w (Ret fun t_39 w =>
          efu prog (Instr.storeAt 76 h_2 t_39) w fun u_40 w =>
          pvv prog (Instr.sliceAt 22 end_34 (some (.int .i64 64)) none none) w fun t_41 w =>
          again_35 [t_41] w)) <|
        ldv prog (Instr.loadAt 76 h_2) w fun t_42 w =>
        lp (fun σ w again_44 => pop σ fun t_43 σ => fin σ <|
          pvv prog (binOp .lss 3 t_43 (.int .i64 8)) w fun t_45 w =>
          cd t_45 (
            pvv prog (Instr.index 76 t_42 t_43) w fun t_46 w =>
            pvv prog (binOp .mul 3 (.int .i64 4) t_43) w fun t_47 w =>
            pvv prog (binOp .mul 3 (.int .i64 4) t_43) w fun t_48 w =>
            pvv prog (binOp .add 3 t_48 (.int .i64 1)) w fun t_49 w =>
            pvv prog (binOp .mul 3 (.int .i64 4) t_43) w fun t_50 w =>
            pvv prog (binOp .add 3 t_50 (.int .i64 2)) w fun t_51 w =>
            pvv prog (binOp .mul 3 (.int .i64 4) t_43) w fun t_52 w =>
            pvv prog (binOp .add 3 t_52 (.int .i64 3)) w fun t_53 w =>
            pvv prog (binOp .shr 74 t_46 (.int .u64 24)) w fun t_54 w =>
            pvv prog (convert 74 5 t_54) w fun t_55 w =>
            pvv prog (binOp .shr 74 t_46 (.int .u64 16)) w fun t_56 w =>
            pvv prog (convert 74 5 t_56) w fun t_57 w =>
            pvv prog (binOp .shr 74 t_46 (.int .u64 8)) w fun t_58 w =>
            pvv prog (convert 74 5 t_58) w fun t_59 w =>
            pvv prog (convert 74 5 t_46) w fun t_60 w =>
            pvv prog (Instr.indexAt 28 out_0 t_47) w fun t_61 w =>
            efu prog (Instr.storeAt 5 t_61 t_55) w fun u_62 w =>
            pvv prog (Instr.indexAt 28 out_0 t_49) w fun t_63 w =>
            efu prog (Instr.storeAt 5 t_63 t_57) w fun u_64 w =>
            pvv prog (Instr.indexAt 28 out_0 t_51) w fun t_65 w =>
            efu prog (Instr.storeAt 5 t_65 t_59) w fun u_66 w =>
            pvv prog (Instr.indexAt 28 out_0 t_53) w fun t_67 w =>
            efu prog (Instr.storeAt 5 t_67 t_60) w fun u_68 w =>
            pvv prog (binOp .add 3 t_43 (.int .i64 1)) w fun t_69 w =>
            again_44 [t_69] w) <|
          ldv prog (Instr.loadAt 28 out_0) w fun t_70 w =>
          efu prog (Instr.storeAt 28 out_0 t_70) w fun u_71 w =>
          ∃ r_72, (do loadVar 28 (← asAddr out_0)).run prog w = .ok r_72 w ∧ K r_72 w) [(.int .i64 0)] w) [end_23] w) [t_22, (.int .i64 0)] w)) [b_p0] w)
theorem B7_eq (b_p0 : Value) (w : World) (K : Value → World → Prop) : denFn prog Tryz.f7 T7 [b_p0] w K = B7 b_p0 w K := by kernel_rfl
theorem c7 {b_p0 : Value} {w : World} {K : Value → World → Prop} (h : B7 b_p0 w K) : Calls prog 7 #[b_p0] w (Ret K) :=
  denFn_calls Tryz.func7 T7_ok (Eq.mpr (B7_eq b_p0 w K) h)

-- 59 holdfast/codec.ToNumber
def T59 : Ann := (.seq .none (.seq (.seq .none (.seq (.seq .none .none) .none)) (.seq .none (.seq (.seq .none (.seq (.seq .none .none) .none)) (.seq .none (.seq (.seq .none (.seq (.seq .none .none) .none)) (.seq .none .none)))))))
theorem T59_ok : chkFn prog Tryz.f59 T59 = true := by kernel_rfl
def B59 (s_p0 : Value) (w : World) (K : Value → World → Prop) : Prop :=
  pvv prog (oEq .eql 9 (.tmp 7) (.const (.string ⟨#[]⟩)) s_p0 (.string ⟨#[]⟩)) w fun t_0 w =>
  gate (some (t_0, false)) (fun K => K s_p0 w) w fun t_1 w =>
  gate (some (t_0, false)) (fun K => pvv prog (Instr.index 9 t_1 (.int .i64 0)) w K) w fun t_2 w =>
  gate (some (t_0, false)) (fun K => pvv prog (convert 5 3 t_2) w K) w fun t_3 w =>
  gate (some (t_0, false)) (fun K => K s_p0 w) w fun t_4 w =>
  gate (some (t_0, false)) (fun K => pv prog (oBi .len #[9] 3 #[false] #[t_4]) w K) w fun t_5 w =>
  gate (some (t_0, false)) (fun K => pvv prog (binOp .add 3 (.int .i64 97) t_5) w K) w fun t_6 w =>
  gate (some (t_0, false)) (fun K => pvv prog (binOp .sub 3 t_6 (.int .i64 1)) w K) w fun t_7 w =>
  gate (some (t_0, false)) (fun K => pvv prog (oEq .neq 3 (.tmp 12) (.tmp 16) t_3 t_7) w K) w fun t_8 w =>
  pv prog (oPick t_0 (.bool true) t_8) w fun t_9 w =>
  gate (some (t_9, false)) (fun K => K s_p0 w) w fun t_10 w =>
  gate (some (t_9, false)) (fun K => pv prog (oBi .len #[9] 3 #[false] #[t_10]) w K) w fun t_11 w =>
  gate (some (t_9, false)) (fun K => pvv prog (binOp .gtr 3 t_11 (.int .i64 17)) w K) w fun t_12 w =>
  pv prog (oPick t_9 (.bool true) t_12) w fun t_13 w =>
  cd t_13 (
    K (.tuple #[(.int .i64 0), (.int .i64 3)]) w) <|
  pvv prog (Instr.sliceAt 9 s_p0 (some (.int .i64 1)) none none) w fun t_14 w =>
  Calls prog 74 #[t_14, (.string ⟨#[48]⟩)] w (Ret fun t_15 w =>
  gate (some (t_15, false)) (fun K => K t_14 w) w fun t_16 w =>
  gate (some (t_15, false)) (fun K => Calls prog 71 #[t_16, (.string ⟨#[48, 49, 50, 51, 52, 53, 54, 55, 56, 57, 97, 98, 99, 100, 101, 102]⟩)] w (Ret K)) w fun t_17 w =>
  gate (some (t_15, false)) (fun K => pvv prog (oEq .neq 9 (.tmp 30) (.const (.string ⟨#[]⟩)) t_17 (.string ⟨#[]⟩)) w K) w fun t_18 w =>
  pv prog (oPick t_15 (.bool true) t_18) w fun t_19 w =>
  cd t_19 (
    K (.tuple #[(.int .i64 0), (.int .i64 3)]) w) <|
  pvv prog (binOp .add 9 (.string ⟨#[48]⟩) t_14) w fun t_20 w =>
  Calls prog 75 #[t_20, (.int .i64 16), (.int .i64 64)] w (Ret fun t_21 w =>
  pvv prog (Instr.extract t_21 0) w fun t_22 w =>
  pvv prog (Instr.extract t_21 1) w fun t_23 w =>
  pvv prog (oEq .neq 151 (.tmp 39) (.const .nilIface) t_23 .nilIface) w fun t_24 w =>
  gate (some (t_24, false)) (fun K => K t_22 w) w fun t_25 w =>
  gate (some (t_24, false)) (fun K => pvv prog (binOp .gtr 79 t_25 (.int .u64 4611686018427387904)) w K) w fun t_26 w =>
  pv prog (oPick t_24 (.bool true) t_26) w fun t_27 w =>
  cd t_27 (
    K (.tuple #[(.int .i64 0), (.int .i64 2)]) w) <|
  pvv prog (convert 79 3 t_22) w fun t_28 w =>
  K (.tuple #[t_28, (.int .i64 0)]) w))
theorem B59_eq (s_p0 : Value) (w : World) (K : Value → World → Prop) : denFn prog Tryz.f59 T59 [s_p0] w K = B59 s_p0 w K := by kernel_rfl
theorem c59 {s_p0 : Value} {w : World} {K : Value → World → Prop} (h : B59 s_p0 w K) : Calls prog 59 #[s_p0] w (Ret K) :=
  denFn_calls Tryz.func59 T59_ok (Eq.mpr (B59_eq s_p0 w K) h)

-- 92 internal/strconv.FormatInt
def T92 : Ann := (.seq .none (.seq (.seq .none (.seq (.seq (.seq .none (.seq (.seq .none .none) .none)) (.seq .none (.seq .none (.meet 62914624 [6] (.seq .none (.seq .none .none)) (.seq .none (.seq .none (.seq (.seq .none (.seq (.seq .none (.seq .none .none)) .none)) (.seq .none .none)))))))) .none)) (.seq .none (.seq .none .none))))
theorem T92_ok : chkFn prog Tryz.f92 T92 = true := by kernel_rfl
def B92 (i_p0 base_p1 : Value) (w : World) (K : Value → World → Prop) : Prop :=
  pvv prog (oEq .eql 3 (.tmp 10) (.const (.int .i64 10)) base_p1 (.int .i64 10)) w fun t_0 w =>
  cd t_0 (
    pvv prog (binOp .leq 2 (.int .i64 0) i_p0) w fun t_1 w =>
    gate (some (t_1, true)) (fun K => K i_p0 w) w fun t_2 w =>
    gate (some (t_1, true)) (fun K => pvv prog (binOp .lss 2 t_2 (.int .i64 100)) w K) w fun t_3 w =>
    pv prog (oPick t_1 t_3 (.bool false)) w fun t_4 w =>
    cd t_4 (
      Calls prog 117 #[i_p0] w (Ret fun t_5 w =>
      K t_5 w)) <|
    efv prog (Instr.alloc 192 true (.tuple #[])) w fun a_6 w =>
    pvv prog (convert 2 79 i_p0) w fun t_7 w =>
    jn (fun σ w => pop σ fun u_8 σ => fin σ <|
      Calls prog 118 #[u_8] w (Ret fun t_9 w =>
      pvv prog (binOp .add 3 (.int .i64 1) t_9) w fun t_10 w =>
      pvv prog (Instr.sliceAt 192 a_6 (some (.int .i64 1)) (some t_10) none) w fun t_11 w =>
      Calls prog 119 #[t_11, u_8] w (Ret fun t_12 w =>
      pvv prog (binOp .lss 2 i_p0 (.int .i64 0)) w fun t_13 w =>
      cd t_13 (
        pvv prog (Instr.indexAt 192 a_6 (.int .i64 0)) w fun t_14 w =>
        efu prog (Instr.storeAt 5 t_14 (.int .u8 45)) w fun u_15 w =>
        pvv prog (binOp .add 3 (.int .i64 1) t_9) w fun t_16 w =>
        pvv prog (Instr.sliceAt 192 a_6 none (some t_16) none) w fun t_17 w =>
        efv prog (convert 22 9 t_17) w fun t_18 w =>
        K t_18 w) <|
      pvv prog (binOp .add 3 (.int .i64 1) t_9) w fun t_19 w =>
      pvv prog (Instr.sliceAt 192 a_6 (some (.int .i64 1)) (some t_19) none) w fun t_20 w =>
      efv prog (convert 22 9 t_20) w fun t_21 w =>
      K t_21 w))) fun k_22 =>
    pvv prog (binOp .lss 2 i_p0 (.int .i64 0)) w fun t_23 w =>
    cd t_23 (
      pvv prog (Op.unary .neg t_7) w fun t_24 w =>
      k_22 [t_24] w) <|
    k_22 [t_7] w) <|
  pvv prog (convert 2 79 i_p0) w fun t_25 w =>
  pvv prog (binOp .lss 2 i_p0 (.int .i64 0)) w fun t_26 w =>
  Calls prog 120 #[(.slice none 0 0), t_25, base_p1, t_26, (.bool false)] w (Ret fun t_27 w =>
  pvv prog (Instr.extract t_27 0) w fun t_28 w =>
  pvv prog (Instr.extract t_27 1) w fun t_29 w =>
  K t_29 w)
theorem B92_eq (i_p0 base_p1 : Value) (w : World) (K : Value → World → Prop) : denFn prog Tryz.f92 T92 [i_p0, base_p1] w K = B92 i_p0 base_p1 w K := by kernel_rfl
theorem c92 {i_p0 base_p1 : Value} {w : World} {K : Value → World → Prop} (h : B92 i_p0 base_p1 w K) : Calls prog 92 #[i_p0, base_p1] w (Ret K) :=
  denFn_calls Tryz.func92 T92_ok (Eq.mpr (B92_eq i_p0 base_p1 w K) h)

-- 32 (*holdfast/keys.Tree).Key
def T32 : Ann := (.seq .none (.seq .none (.seq (.block (.seq .none (.seq (.seq .none .none) (.seq .none (.seq (.seq .none .none) .none))))) (.seq .none (.seq .none .none)))))
theorem T32_ok : chkFn prog Tryz.f32 T32 = true := by kernel_rfl
def B32 (t_p0 tenant_p1 name_p2 version_p3 : Value) (w : World) (K : Value → World → Prop) : Prop :=
  efv prog (Instr.alloc 28 true (.tuple #[])) w fun t_0 w =>
  Calls prog 31 #[t_p0, tenant_p1, name_p2] w (Ret fun t_1 w =>
  pvv prog (Instr.extract t_1 0) w fun t_2 w =>
  pvv prog (Instr.extract t_1 1) w fun t_3 w =>
  pvv prog (oEq .neq 32 (.tmp 22) (.const (.int .i64 0)) t_3 (.int .i64 0)) w fun t_4 w =>
  cd t_4 (
    pvv prog (Instr.build 28 #[]) w fun t_5 w =>
    efu prog (Instr.storeAt 28 t_0 t_5) w fun u_6 w =>
    ∃ r_7, (do loadVar 28 (← asAddr t_0)).run prog w = .ok r_7 w ∧ K (.tuple #[r_7, t_3]) w) <|
  pvv prog (binOp .lss 3 version_p3 (.int .i64 1)) w fun t_8 w =>
  gate (some (t_8, false)) (fun K => K version_p3 w) w fun t_9 w =>
  gate (some (t_8, false)) (fun K => K t_2 w) w fun t_10 w =>
  gate (some (t_8, false)) (fun K => pvv prog (binOp .gtr 3 t_9 t_10) w K) w fun t_11 w =>
  pv prog (oPick t_8 (.bool true) t_11) w fun t_12 w =>
  cd t_12 (
    pvv prog (Instr.build 28 #[]) w fun t_13 w =>
    efu prog (Instr.storeAt 28 t_0 t_13) w fun u_14 w =>
    ∃ r_15, (do loadVar 28 (← asAddr t_0)).run prog w = .ok r_15 w ∧ K (.tuple #[r_15, (.int .i64 2)]) w) <|
  Calls prog 52 #[version_p3] w (Ret fun t_16 w =>
  pvv prog (Instr.extract t_16 0) w fun t_17 w =>
  pvv prog (Instr.extract t_16 1) w fun t_18 w =>
  pv prog (oNil t_p0) w fun t_19 w =>
  pvv prog (Instr.fieldAt 73 t_19 0) w fun t_20 w =>
  ldv prog (Instr.loadAt 28 t_20) w fun t_21 w =>
  efv prog (Instr.buildSlice 39 3 #[(0, tenant_p1), (1, name_p2), (2, t_17)]) w fun t_22 w =>
  Calls prog 54 #[t_21, t_22] w (Ret fun t_23 w =>
  pvv prog (Instr.extract t_23 0) w fun t_24 w =>
  pvv prog (Instr.extract t_23 1) w fun t_25 w =>
  efu prog (Instr.storeAt 28 t_0 t_24) w fun u_26 w =>
  ∃ r_27, (do loadVar 28 (← asAddr t_0)).run prog w = .ok r_27 w ∧ K (.tuple #[r_27, t_25]) w)))
theorem B32_eq (t_p0 tenant_p1 name_p2 version_p3 : Value) (w : World) (K : Value → World → Prop) : denFn prog Tryz.f32 T32 [t_p0, tenant_p1, name_p2, version_p3] w K = B32 t_p0 tenant_p1 name_p2 version_p3 w K := by kernel_rfl
theorem c32 {t_p0 tenant_p1 name_p2 version_p3 : Value} {w : World} {K : Value → World → Prop} (h : B32 t_p0 tenant_p1 name_p2 version_p3 w K) : Calls prog 32 #[t_p0, tenant_p1, name_p2, version_p3] w (Ret K) :=
  denFn_calls Tryz.func32 T32_ok (Eq.mpr (B32_eq t_p0 tenant_p1 name_p2 version_p3 w K) h)

-- 50 holdfast/codec.Row
def T50 : Ann := (.seq .none (.seq (.seq .none (.seq (.seq .none .none) .none)) (.seq .none (.seq (.seq .none (.block (.loop 4294901852 [4, 16] (.seq .none (.seq (.seq .none .none) (.seq (.block (.seq .none (.seq (.seq .none (.seq (.seq .none .none) .none)) .none))) .none)))))) (.seq (.seq .none (.seq (.seq .none .none) .none)) (.seq .none .none))))))
theorem T50_ok : chkFn prog Tryz.f50 T50 = true := by kernel_rfl
def B50 (columns_p0 : Value) (w : World) (K : Value → World → Prop) : Prop :=
  pv prog (oBi .len #[39] 3 #[false] #[columns_p0]) w fun t_0 w =>
  pvv prog (binOp .gtr 3 t_0 (.int .i64 8)) w fun t_1 w =>
  cd t_1 (
    K (.tuple #[(.slice none 0 0), (.int .i64 2)]) w) <|
  pv prog (oBi .len #[39] 3 #[false] #[columns_p0]) w fun t_2 w =>
  pvv prog (convert 3 5 t_2) w fun t_3 w =>
  efv prog (Instr.buildSlice 22 1 #[(0, t_3)]) w fun t_4 w =>
  pv prog (oBi .len #[39] 3 #[false] #[columns_p0]) w fun t_5 w =>
  lp (fun σ w again_8 => pop σ fun out_6 σ => pop σ fun t_7 σ => fin σ <|
    pvv prog (binOp .lss 3 t_7 t_5) w fun t_9 w =>
    cd t_9 (
      pvv prog (Instr.indexAt 39 columns_p0 t_7) w fun t_10 w =>
      ldv prog (Instr.loadAt 9 t_10) w fun t_11 w =>
      pv prog (oBi .len #[9] 3 #[false] #[t_11]) w fun t_12 w =>
      pvv prog (binOp .gtr 3 t_12 (.int .i64 70)) w fun t_13 w =>
      cd t_13 (
        K (.tuple #[(.slice none 0 0), (.int .i64 6)]) w) <|
      pv prog (oBi .len #[9] 3 #[false] #[t_11]) w fun t_14 w =>
      pvv prog (convert 3 5 t_14) w fun t_15 w =>
      efv prog (Instr.buildSlice 22 1 #[(0, t_15)]) w fun t_16 w =>
      ef prog (oBi .append #[22, 22] 22 #[false, false] #[out_6, t_16]) w fun t_17 w =>
      ef prog (oBi .append #[22, 9] 22 #[false, false] #[t_17, t_11]) w fun t_18 w =>
      pvv prog (binOp .add 3 t_7 (.int .i64 1)) w fun t_19 w =>
      again_8 [t_18, t_19] w) <|
    pv prog (oBi .len #[22] 3 #[false] #[out_6]) w fun t_20 w =>
    pvv prog (binOp .gtr 3 t_20 (.int .i64 72)) w fun t_21 w =>
    cd t_21 (
      K (.tuple #[(.slice none 0 0), (.int .i64 6)]) w) <|
    K (.tuple #[out_6, (.int .i64 0)]) w) [t_4, (.int .i64 0)] w
theorem B50_eq (columns_p0 : Value) (w : World) (K : Value → World → Prop) : denFn prog Tryz.f50 T50 [columns_p0] w K = B50 columns_p0 w K := by kernel_rfl
theorem c50 {columns_p0 : Value} {w : World} {K : Value → World → Prop} (h : B50 columns_p0 w K) : Calls prog 50 #[columns_p0] w (Ret K) :=
  denFn_calls Tryz.func50 T50_ok (Eq.mpr (B50_eq columns_p0 w K) h)

-- 126 holdfast/seal.blocks$1
def T126 : Ann := (.seq .none (.block (.loop 262128 [4] (.seq (.seq (.draw [.op 0 .pure, .op 1 .pure, .op 5 .pure, .op 3 .load, .par [⟨2, .eff, (some 7), []⟩, ⟨4, .eff, (some 9), []⟩, ⟨6, .eff, (some 11), []⟩], .op 7 .eff, .op 8 .eff, .op 9 .eff, .op 10 .eff]) (.seq .none .none)) (.seq (.block .none) .none)))))
theorem T126_ok : chkFn prog Tryz.f126 T126 = true := by kernel_rfl
def B126 (yield_p0 x_p1 x_p2 : Value) (w : World) (K : Value → World → Prop) : Prop :=
  lp (fun σ w again_1 => pop σ fun i_0 σ => fin σ <|
    dr w fun w =>
    pvv prog (Instr.sliceAt 28 x_p1 none none none) w fun t_2 w =>
    bindS (vN (Instr.loadAt 79 x_p2)) fun m_4 => ldv prog (Instr.loadAt 79 x_p2) w fun t_3 w =>
    par 3 w fun J_5 =>
      (∀ (σ : List (Option Value)) (w : World), J_5 σ w → un σ 0 (efv prog (Instr.buildSlice 22 1 #[(0, (.int .u8 115))]) w fun v_6 w => stay prog none m_4 t_3 w <| J_5 (σ.set 0 (some v_6)) w)) ∧
      (∀ (σ : List (Option Value)) (w : World), J_5 σ w → un σ 1 (Calls prog 55 #[t_3] w (Ret fun v_7 w => J_5 (σ.set 1 (some v_7)) w))) ∧
      (∀ (σ : List (Option Value)) (w : World), J_5 σ w → un σ 2 (Calls prog 55 #[i_0] w (Ret fun v_8 w => stay prog none m_4 t_3 w <| J_5 (σ.set 2 (some v_8)) w))) ∧
      ∀ (σ : List (Option Value)) (w : World), J_5 σ w → is σ 0 fun t_9 => is σ 1 fun t_10 => is σ 2 fun t_11 => 
      efv prog (Instr.buildSlice 232 3 #[(0, t_9), (1, t_10), (2, t_11)]) w fun t_12 w => stay prog none m_4 t_3 w <| 
      Calls prog 127 #[t_12] w (Ret fun t_13 w => stay prog none m_4 t_3 w <| 
      Calls prog 68 #[t_2, t_13] w (Ret fun t_14 w => stay prog none m_4 t_3 w <| 
      ef prog (oCall yield_p0 #[t_14]) w fun t_15 w => stay prog none m_4 t_3 w <| 
      cd t_15 (
        pvv prog (binOp .add 79 i_0 (.int .u64 1)) w fun t_16 w =>
        again_1 [t_16] w) <|
      K (.tuple #[]) w))) [(.int .u64 0)] w
theorem B126_eq (yield_p0 x_p1 x_p2 : Value) (w : World) (K : Value → World → Prop) : denFn prog Tryz.f126 T126 [yield_p0, x_p1, x_p2] w K = B126 yield_p0 x_p1 x_p2 w K := by kernel_rfl
theorem c126 {yield_p0 x_p1 x_p2 : Value} {w : World} {K : Value → World → Prop} (h : B126 yield_p0 x_p1 x_p2 w K) : Calls prog 126 #[yield_p0, x_p1, x_p2] w (Ret K) :=
  denFn_calls Tryz.func126 T126_ok (Eq.mpr (B126_eq yield_p0 x_p1 x_p2 w K) h)

-- 31 (*holdfast/keys.Tree).Current
def T31 : Ann := (.seq .none (.seq (.block (.seq .none (.seq (.seq .none .none) (.seq .none (.seq (.seq .none .none) (.seq .none (.seq (.seq .none .none) .none))))))) (.seq .none .none)))
theorem T31_ok : chkFn prog Tryz.f31 T31 = true := by kernel_rfl
def B31 (t_p0 tenant_p1 name_p2 : Value) (w : World) (K : Value → World → Prop) : Prop :=
  pvv prog (oEq .eql 25 (.tmp 9) (.const (.pointer none)) t_p0 (.pointer none)) w fun t_0 w =>
  cd t_0 (
    K (.tuple #[(.int .i64 0), (.int .i64 1)]) w) <|
  Calls prog 53 #[tenant_p1] w (Ret fun t_1 w =>
  pvv prog (Op.unary .not t_1) w fun t_2 w =>
  gate (some (t_2, false)) (fun K => K name_p2 w) w fun t_3 w =>
  gate (some (t_2, false)) (fun K => Calls prog 53 #[t_3] w (Ret K)) w fun t_4 w =>
  gate (some (t_2, false)) (fun K => pvv prog (Op.unary .not t_4) w K) w fun t_5 w =>
  pv prog (oPick t_2 (.bool true) t_5) w fun t_6 w =>
  cd t_6 (
    K (.tuple #[(.int .i64 0), (.int .i64 8)]) w) <|
  pv prog (oNil t_p0) w fun t_7 w =>
  pvv prog (Instr.fieldAt 73 t_7 2) w fun t_8 w =>
  ldv prog (Instr.loadAt 70 t_8) w fun t_9 w =>
  ldv prog (Instr.lookup 70 t_9 tenant_p1 false) w fun t_10 w =>
  cd t_10 (
    K (.tuple #[(.int .i64 0), (.int .i64 12)]) w) <|
  pv prog (oNil t_p0) w fun t_11 w =>
  pvv prog (Instr.fieldAt 73 t_11 3) w fun t_12 w =>
  ldv prog (Instr.loadAt 71 t_12) w fun t_13 w =>
  pvv prog (Instr.build 114 #[(0, tenant_p1), (1, name_p2)]) w fun t_14 w =>
  ldv prog (Instr.lookup 71 t_13 t_14 false) w fun t_15 w =>
  pv prog (oBi .max #[3, 3] 3 #[false, true] #[t_15, (.int .i64 1)]) w fun t_16 w =>
  K (.tuple #[t_16, (.int .i64 0)]) w)
theorem B31_eq (t_p0 tenant_p1 name_p2 : Value) (w : World) (K : Value → World → Prop) : denFn prog Tryz.f31 T31 [t_p0, tenant_p1, name_p2] w K = B31 t_p0 tenant_p1 name_p2 w K := by kernel_rfl
theorem c31 {t_p0 tenant_p1 name_p2 : Value} {w : World} {K : Value → World → Prop} (h : B31 t_p0 tenant_p1 name_p2 w K) : Calls prog 31 #[t_p0, tenant_p1, name_p2] w (Ret K) :=
  denFn_calls Tryz.func31 T31_ok (Eq.mpr (B31_eq t_p0 tenant_p1 name_p2 w K) h)

-- 115 strings.Count
def T115 : Ann := (.seq .none (.seq (.seq .none (.seq (.seq .none .none) .none)) (.seq (.seq .none (.seq (.seq .none .none) .none)) (.seq .none (.block (.loop 17178820721 [0, 5] (.block (.seq .none (.seq (.seq .none (.seq (.seq .none .none) .none)) (.seq .none .none))))))))))
theorem T115_ok : chkFn prog Tryz.f115 T115 = true := by kernel_rfl
def B115 (s_p0 substr_p1 : Value) (w : World) (K : Value → World → Prop) : Prop :=
  pv prog (oBi .len #[9] 3 #[false] #[substr_p1]) w fun t_0 w =>
  pvv prog (oEq .eql 3 (.tmp 8) (.const (.int .i64 0)) t_0 (.int .i64 0)) w fun t_1 w =>
  cd t_1 (
    Calls prog 145 #[s_p0] w (Ret fun t_2 w =>
    pvv prog (binOp .add 3 t_2 (.int .i64 1)) w fun t_3 w =>
    K t_3 w)) <|
  pv prog (oBi .len #[9] 3 #[false] #[substr_p1]) w fun t_4 w =>
  pvv prog (oEq .eql 3 (.tmp 14) (.const (.int .i64 1)) t_4 (.int .i64 1)) w fun t_5 w =>
  cd t_5 (
    pvv prog (Instr.index 9 substr_p1 (.int .i64 0)) w fun t_6 w =>
    ef prog (oCall (.func (.func 146) #[] #[]) #[s_p0, t_6]) w fun t_7 w =>
    K t_7 w) <|
  lp (fun σ w again_10 => pop σ fun s_8 σ => pop σ fun n_9 σ => fin σ <|
    Calls prog 116 #[s_8, substr_p1] w (Ret fun t_11 w =>
    pvv prog (oEq .eql 3 (.tmp 23) (.const (.int .i64 (-1))) t_11 (.int .i64 (-1))) w fun t_12 w =>
    cd t_12 (
      K n_9 w) <|
    pvv prog (binOp .add 3 n_9 (.int .i64 1)) w fun t_13 w =>
    pv prog (oBi .len #[9] 3 #[false] #[substr_p1]) w fun t_14 w =>
    pvv prog (binOp .add 3 t_11 t_14) w fun t_15 w =>
    pvv prog (Instr.sliceAt 9 s_8 (some t_15) none none) w fun t_16 w =>
    again_10 [t_16, t_13] w)) [s_p0, (.int .i64 0)] w
theorem B115_eq (s_p0 substr_p1 : Value) (w : World) (K : Value → World → Prop) : denFn prog Tryz.f115 T115 [s_p0, substr_p1] w K = B115 s_p0 substr_p1 w K := by kernel_rfl
theorem c115 {s_p0 substr_p1 : Value} {w : World} {K : Value → World → Prop} (h : B115 s_p0 substr_p1 w K) : Calls prog 115 #[s_p0, substr_p1] w (Ret K) :=
  denFn_calls Tryz.func115 T115_ok (Eq.mpr (B115_eq s_p0 substr_p1 w K) h)

-- 33 holdfast/seal.Seal
def T33 : Ann := (.seq .none (.seq (.seq .none (.seq (.seq .none .none) .none)) (.seq (.draw [.op 0 .pure, .op 3 .pure, .op 4 .pure, .op 2 .load, .op 1 .eff, .op 5 .eff, .op 6 .eff, .op 7 .pure]) (.seq .none (.seq .none .none)))))
theorem T33_ok : chkFn prog Tryz.f33 T33 = true := by kernel_rfl
def B33 (key_p0 once_p1 plain_p2 : Value) (w : World) (K : Value → World → Prop) : Prop :=
  efv prog (Instr.box 28 key_p0) w fun key_0 w =>
  pv prog (oBi .len #[22] 3 #[false] #[plain_p2]) w fun t_1 w =>
  pvv prog (binOp .gtr 3 t_1 (.int .i64 1024)) w fun t_2 w =>
  cd t_2 (
    K (.tuple #[(.slice none 0 0), (.int .i64 6)]) w) <|
  dr w fun w =>
  bindS (vN (Instr.loadAt 28 key_0)) fun m_4 => ldv prog (Instr.loadAt 28 key_0) w fun t_3 w =>
  Calls prog 55 #[once_p1] w (Ret fun t_5 w => stay prog none m_4 t_3 w <| 
  Calls prog 56 #[t_3, once_p1, plain_p2] w (Ret fun t_6 w =>
  ef prog (oBi .append #[22, 22] 22 #[false, false] #[t_5, t_6]) w fun t_7 w => stay prog none m_4 t_3 w <| 
  ldv prog (Instr.loadAt 28 key_0) w fun t_8 w =>
  Calls prog 57 #[t_8, t_7] w (Ret fun t_9 w =>
  efv prog (Instr.alloc 130 true (.tuple #[])) w fun t_10 w =>
  efu prog (Instr.storeAt 130 t_10 t_9) w fun u_11 w =>
  pvv prog (Instr.sliceAt 130 t_10 none none none) w fun t_12 w =>
  ef prog (oBi .append #[22, 22] 22 #[false, false] #[t_7, t_12]) w fun t_13 w =>
  K (.tuple #[t_13, (.int .i64 0)]) w)))
theorem B33_eq (key_p0 once_p1 plain_p2 : Value) (w : World) (K : Value → World → Prop) : denFn prog Tryz.f33 T33 [key_p0, once_p1, plain_p2] w K = B33 key_p0 once_p1 plain_p2 w K := by kernel_rfl
theorem c33 {key_p0 once_p1 plain_p2 : Value} {w : World} {K : Value → World → Prop} (h : B33 key_p0 once_p1 plain_p2 w K) : Calls prog 33 #[key_p0, once_p1, plain_p2] w (Ret K) :=
  denFn_calls Tryz.func33 T33_ok (Eq.mpr (B33_eq key_p0 once_p1 plain_p2 w K) h)

-- 29 (*holdfast/audit.Chain).Anchored
def T29 : Ann := (.seq .none (.seq (.seq .none (.seq (.seq .none .none) .none)) (.seq (.draw [.op 0 .pure, .op 1 .pure, .op 2 .pure, .op 3 .pure, .op 5 .pure, .op 6 .pure, .op 7 .pure, .op 8 .pure, .op 4 .load, .op 10 .pure, .op 9 .load, .op 11 .eff]) .none)))
theorem T29_ok : chkFn prog Tryz.f29 T29 = true := by kernel_rfl
def B29 (c_p0 : Value) (w : World) (K : Value → World → Prop) : Prop :=
  efv prog (Instr.alloc 28 true (.tuple #[])) w fun t_0 w =>
  pvv prog (oEq .eql 23 (.tmp 4) (.const (.pointer none)) c_p0 (.pointer none)) w fun t_1 w =>
  cd t_1 (
    pvv prog (Instr.build 28 #[]) w fun t_2 w =>
    efu prog (Instr.storeAt 28 t_0 t_2) w fun u_3 w =>
    ∃ r_4, (do loadVar 28 (← asAddr t_0)).run prog w = .ok r_4 w ∧ K (.tuple #[(.int .i64 0), r_4]) w) <|
  dr w fun w =>
  pv prog (oNil c_p0) w fun t_5 w =>
  pvv prog (Instr.fieldAt 69 t_5 1) w fun t_6 w =>
  pvv prog (Instr.fieldAt 66 t_6 0) w fun t_7 w =>
  pv prog (oNil c_p0) w fun t_8 w =>
  pvv prog (Instr.fieldAt 69 t_8 1) w fun t_9 w =>
  pvv prog (Instr.fieldAt 66 t_9 1) w fun t_10 w =>
  bindS (vN (Instr.loadAt 3 t_7)) fun m_12 => ldv prog (Instr.loadAt 3 t_7) w fun t_11 w =>
  bindS (vN (Instr.loadAt 28 t_10)) fun m_14 => ldv prog (Instr.loadAt 28 t_10) w fun t_13 w =>
  efu prog (Instr.storeAt 28 t_0 t_13) w fun u_15 w =>
  ∃ r_16, (do loadVar 28 (← asAddr t_0)).run prog w = .ok r_16 w ∧ K (.tuple #[t_11, r_16]) w
theorem B29_eq (c_p0 : Value) (w : World) (K : Value → World → Prop) : denFn prog Tryz.f29 T29 [c_p0] w K = B29 c_p0 w K := by kernel_rfl
theorem c29 {c_p0 : Value} {w : World} {K : Value → World → Prop} (h : B29 c_p0 w K) : Calls prog 29 #[c_p0] w (Ret K) :=
  denFn_calls Tryz.func29 T29_ok (Eq.mpr (B29_eq c_p0 w K) h)

-- 53 holdfast/codec.IsName
def T53 : Ann := (.seq .none (.seq .none .none))
theorem T53_ok : chkFn prog Tryz.f53 T53 = true := by kernel_rfl
def B53 (s_p0 : Value) (w : World) (K : Value → World → Prop) : Prop :=
  pvv prog (oEq .neq 9 (.tmp 3) (.const (.string ⟨#[]⟩)) s_p0 (.string ⟨#[]⟩)) w fun t_0 w =>
  gate (some (t_0, true)) (fun K => K s_p0 w) w fun t_1 w =>
  gate (some (t_0, true)) (fun K => pv prog (oBi .len #[9] 3 #[false] #[t_1]) w K) w fun t_2 w =>
  gate (some (t_0, true)) (fun K => pvv prog (binOp .leq 3 t_2 (.int .i64 9)) w K) w fun t_3 w =>
  pv prog (oPick t_0 t_3 (.bool false)) w fun t_4 w =>
  gate (some (t_4, true)) (fun K => K s_p0 w) w fun t_5 w =>
  gate (some (t_4, true)) (fun K => Calls prog 71 #[t_5, (.string ⟨#[97, 98, 99, 100, 101, 102, 103, 104, 105, 106, 107, 108, 109, 110, 111, 112, 113, 114, 115, 116, 117, 118, 119, 120, 121, 122, 48, 49, 50, 51, 52, 53, 54, 55, 56, 57, 45]⟩)] w (Ret K)) w fun t_6 w =>
  gate (some (t_4, true)) (fun K => pvv prog (oEq .eql 9 (.tmp 12) (.const (.string ⟨#[]⟩)) t_6 (.string ⟨#[]⟩)) w K) w fun t_7 w =>
  pv prog (oPick t_4 t_7 (.bool false)) w fun t_8 w =>
  K t_8 w
theorem B53_eq (s_p0 : Value) (w : World) (K : Value → World → Prop) : denFn prog Tryz.f53 T53 [s_p0] w K = B53 s_p0 w K := by kernel_rfl
theorem c53 {s_p0 : Value} {w : World} {K : Value → World → Prop} (h : B53 s_p0 w K) : Calls prog 53 #[s_p0] w (Ret K) :=
  denFn_calls Tryz.func53 T53_ok (Eq.mpr (B53_eq s_p0 w K) h)

-- 157 (*strings.Builder).String
def T157 : Ann := (.seq .none (.seq (.draw [.op 0 .pure, .op 1 .pure, .op 2 .pure, .op 5 .pure, .op 6 .pure, .op 7 .pure, .op 3 .load, .op 8 .load, .op 9 .pure, .op 4 .eff, .op 10 .eff, .op 11 .pure]) .none))
theorem T157_ok : chkFn prog Tryz.f157 T157 = true := by kernel_rfl
def B157 (b_p0 : Value) (w : World) (K : Value → World → Prop) : Prop :=
  dr w fun w =>
  pv prog (oNil b_p0) w fun t_0 w =>
  pvv prog (Instr.fieldAt 227 t_0 1) w fun t_1 w =>
  pv prog (oNil b_p0) w fun t_2 w =>
  pvv prog (Instr.fieldAt 227 t_2 1) w fun t_3 w =>
  bindS (vN (Instr.loadAt 22 t_1)) fun m_5 => ldv prog (Instr.loadAt 22 t_1) w fun t_4 w =>
  bindS (vN (Instr.loadAt 22 t_3)) fun m_7 => ldv prog (Instr.loadAt 22 t_3) w fun t_6 w =>
  pv prog (oBi .len #[22] 3 #[false] #[t_6]) w fun t_8 w =>
  ef prog (oBi .unsafeSliceData #[22] 250 #[false] #[t_4]) w fun t_9 w => stay prog none m_7 t_6 w <| 
  ef prog (oBi .unsafeString #[250, 3] 9 #[false, false] #[t_9, t_8]) w fun t_10 w => stay prog none m_7 t_6 w <| stay prog none m_5 t_4 w <| 
  K t_10 w
theorem B157_eq (b_p0 : Value) (w : World) (K : Value → World → Prop) : denFn prog Tryz.f157 T157 [b_p0] w K = B157 b_p0 w K := by kernel_rfl
theorem c157 {b_p0 : Value} {w : World} {K : Value → World → Prop} (h : B157 b_p0 w K) : Calls prog 157 #[b_p0] w (Ret K) :=
  denFn_calls Tryz.func157 T157_ok (Eq.mpr (B157_eq b_p0 w K) h)

-- 93 strings.trimLeftByte
def T93 : Ann := (.seq .none (.seq (.block (.loop 65505 [0] (.seq (.seq .none (.seq .none .none)) (.block .none)))) (.seq .none .none)))
theorem T93_ok : chkFn prog Tryz.f93 T93 = true := by kernel_rfl
def B93 (s_p0 c_p1 : Value) (w : World) (K : Value → World → Prop) : Prop :=
  lp (fun σ w again_1 => pop σ fun s_0 σ => fin σ <|
    pv prog (oBi .len #[9] 3 #[false] #[s_0]) w fun t_2 w =>
    pvv prog (binOp .gtr 3 t_2 (.int .i64 0)) w fun t_3 w =>
    gate (some (t_3, true)) (fun K => K s_0 w) w fun t_4 w =>
    gate (some (t_3, true)) (fun K => pvv prog (Instr.index 9 t_4 (.int .i64 0)) w K) w fun t_5 w =>
    gate (some (t_3, true)) (fun K => K c_p1 w) w fun t_6 w =>
    gate (some (t_3, true)) (fun K => pvv prog (oEq .eql 5 (.tmp 10) (.tmp 11) t_5 t_6) w K) w fun t_7 w =>
    pv prog (oPick t_3 t_7 (.bool false)) w fun t_8 w =>
    cd t_8 (
      pvv prog (Instr.sliceAt 9 s_0 (some (.int .i64 1)) none none) w fun t_9 w =>
      again_1 [t_9] w) <|
    K s_0 w) [s_p0] w
theorem B93_eq (s_p0 c_p1 : Value) (w : World) (K : Value → World → Prop) : denFn prog Tryz.f93 T93 [s_p0, c_p1] w K = B93 s_p0 c_p1 w K := by kernel_rfl
theorem c93 {s_p0 c_p1 : Value} {w : World} {K : Value → World → Prop} (h : B93 s_p0 c_p1 w K) : Calls prog 93 #[s_p0, c_p1] w (Ret K) :=
  denFn_calls Tryz.func93 T93_ok (Eq.mpr (B93_eq s_p0 c_p1 w K) h)

-- 159 internal/stringslite.Clone
def T159 : Ann := (.seq .none (.seq (.seq .none (.seq (.seq .none .none) .none)) (.seq .none (.seq .none (.seq .none .none)))))
theorem T159_ok : chkFn prog Tryz.f159 T159 = true := by kernel_rfl
def B159 (s_p0 : Value) (w : World) (K : Value → World → Prop) : Prop :=
  pv prog (oBi .len #[9] 3 #[false] #[s_p0]) w fun t_0 w =>
  pvv prog (oEq .eql 3 (.tmp 5) (.const (.int .i64 0)) t_0 (.int .i64 0)) w fun t_1 w =>
  cd t_1 (
    K (.string ⟨#[]⟩) w) <|
  pv prog (oBi .len #[9] 3 #[false] #[s_p0]) w fun t_2 w =>
  efv prog (Instr.makeSlice 22 t_2 t_2) w fun t_3 w =>
  ef prog (oBi .copy #[22, 9] 3 #[false, false] #[t_3, s_p0]) w fun t_4 w =>
  pvv prog (Instr.indexAt 22 t_3 (.int .i64 0)) w fun t_5 w =>
  pv prog (oBi .len #[22] 3 #[false] #[t_3]) w fun t_6 w =>
  ef prog (oBi .unsafeString #[250, 3] 9 #[false, false] #[t_5, t_6]) w fun t_7 w =>
  K t_7 w
theorem B159_eq (s_p0 : Value) (w : World) (K : Value → World → Prop) : denFn prog Tryz.f159 T159 [s_p0] w K = B159 s_p0 w K := by kernel_rfl
theorem c159 {s_p0 : Value} {w : World} {K : Value → World → Prop} (h : B159 s_p0 w K) : Calls prog 159 #[s_p0] w (Ret K) :=
  denFn_calls Tryz.func159 T159_ok (Eq.mpr (B159_eq s_p0 w K) h)

-- 179 math/bits.TrailingZeros64
def T179 : Ann := (.seq .none (.seq (.seq .none (.seq (.seq .none .none) .none)) (.seq .none .none)))
theorem T179_ok : chkFn prog Tryz.f179 T179 = true := by kernel_rfl
def B179 (x_p0 : Value) (w : World) (K : Value → World → Prop) : Prop :=
  pvv prog (oEq .eql 79 (.tmp 3) (.const (.int .u64 0)) x_p0 (.int .u64 0)) w fun t_0 w =>
  cd t_0 (
    K (.int .i64 64) w) <|
  pvv prog (Op.unary .neg x_p0) w fun t_1 w =>
  pvv prog (binOp .and 79 x_p0 t_1) w fun t_2 w =>
  pvv prog (binOp .mul 79 t_2 (.int .u64 285870213051353865)) w fun t_3 w =>
  pvv prog (binOp .shr 79 t_3 (.int .u64 58)) w fun t_4 w =>
  pvv prog (Instr.indexAt 171 (.pointer (some ⟨7, 0, none⟩)) t_4) w fun t_5 w =>
  ldv prog (Instr.loadAt 5 t_5) w fun t_6 w =>
  pvv prog (convert 5 3 t_6) w fun t_7 w =>
  K t_7 w
theorem B179_eq (x_p0 : Value) (w : World) (K : Value → World → Prop) : denFn prog Tryz.f179 T179 [x_p0] w K = B179 x_p0 w K := by kernel_rfl
theorem c179 {x_p0 : Value} {w : World} {K : Value → World → Prop} (h : B179 x_p0 w K) : Calls prog 179 #[x_p0] w (Ret K) :=
  denFn_calls Tryz.func179 T179_ok (Eq.mpr (B179_eq x_p0 w K) h)

-- 130 strconv.syntaxError
def T130 : Ann := (.seq .none (.seq (.draw [.op 0 .pure, .op 1 .pure, .op 3 .load, .op 2 .eff, .op 4 .pure, .op 5 .eff, .op 6 .pure]) .none))
theorem T130_ok : chkFn prog Tryz.f130 T130 = true := by kernel_rfl
def B130 (fn_p0 str_p1 : Value) (w : World) (K : Value → World → Prop) : Prop :=
  dr w fun w =>
  bindS (vN (Instr.loadAt 151 (.pointer (some ⟨1, 0, none⟩)))) fun m_1 => ldv prog (Instr.loadAt 151 (.pointer (some ⟨1, 0, none⟩))) w fun t_0 w =>
  Calls prog 159 #[str_p1] w (Ret fun t_2 w => stay prog none m_1 t_0 w <| 
  pvv prog (Instr.build 236 #[(0, fn_p0), (1, t_2), (2, t_0)]) w fun t_3 w =>
  efv prog (Instr.box 236 t_3) w fun t_4 w => stay prog none m_1 t_0 w <| 
  K t_4 w)
theorem B130_eq (fn_p0 str_p1 : Value) (w : World) (K : Value → World → Prop) : denFn prog Tryz.f130 T130 [fn_p0, str_p1] w K = B130 fn_p0 str_p1 w K := by kernel_rfl
theorem c130 {fn_p0 str_p1 : Value} {w : World} {K : Value → World → Prop} (h : B130 fn_p0 str_p1 w K) : Calls prog 130 #[fn_p0, str_p1] w (Ret K) :=
  denFn_calls Tryz.func130 T130_ok (Eq.mpr (B130_eq fn_p0 str_p1 w K) h)

-- 58 holdfast/seal.Size
def T58 : Ann := (.seq .none (.seq (.seq .none (.seq (.seq .none .none) .none)) (.seq .none .none)))
theorem T58_ok : chkFn prog Tryz.f58 T58 = true := by kernel_rfl
def B58 (plain_p0 : Value) (w : World) (K : Value → World → Prop) : Prop :=
  pvv prog (binOp .lss 3 plain_p0 (.int .i64 0)) w fun t_0 w =>
  gate (some (t_0, false)) (fun K => K plain_p0 w) w fun t_1 w =>
  gate (some (t_0, false)) (fun K => pvv prog (binOp .gtr 3 t_1 (.int .i64 1024)) w K) w fun t_2 w =>
  pv prog (oPick t_0 (.bool true) t_2) w fun t_3 w =>
  cd t_3 (
    K (.int .i64 0) w) <|
  pvv prog (binOp .add 3 plain_p0 (.int .i64 24)) w fun t_4 w =>
  K t_4 w
theorem B58_eq (plain_p0 : Value) (w : World) (K : Value → World → Prop) : denFn prog Tryz.f58 T58 [plain_p0] w K = B58 plain_p0 w K := by kernel_rfl
theorem c58 {plain_p0 : Value} {w : World} {K : Value → World → Prop} (h : B58 plain_p0 w K) : Calls prog 58 #[plain_p0] w (Ret K) :=
  denFn_calls Tryz.func58 T58_ok (Eq.mpr (B58_eq plain_p0 w K) h)

-- 49 math/bits.RotateLeft32
def T49 : Ann := (.seq .none (.seq .none (.seq .none .none)))
theorem T49_ok : chkFn prog Tryz.f49 T49 = true := by kernel_rfl
def B49 (x_p0 k_p1 : Value) (w : World) (K : Value → World → Prop) : Prop :=
  pvv prog (convert 3 80 k_p1) w fun t_0 w =>
  pvv prog (binOp .and 80 t_0 (.int .u64 31)) w fun t_1 w =>
  pvv prog (binOp .shl 74 x_p0 t_1) w fun t_2 w =>
  pvv prog (binOp .sub 80 (.int .u64 32) t_1) w fun t_3 w =>
  pvv prog (binOp .shr 74 x_p0 t_3) w fun t_4 w =>
  pvv prog (binOp .or 74 t_2 t_4) w fun t_5 w =>
  K t_5 w
theorem B49_eq (x_p0 k_p1 : Value) (w : World) (K : Value → World → Prop) : denFn prog Tryz.f49 T49 [x_p0, k_p1] w K = B49 x_p0 k_p1 w K := by kernel_rfl
theorem c49 {x_p0 k_p1 : Value} {w : World} {K : Value → World → Prop} (h : B49 x_p0 k_p1 w K) : Calls prog 49 #[x_p0, k_p1] w (Ret K) :=
  denFn_calls Tryz.func49 T49_ok (Eq.mpr (B49_eq x_p0 k_p1 w K) h)

-- 26 bytes.Clone
def T26 : Ann := (.seq .none (.seq (.seq .none (.seq (.seq .none .none) .none)) (.seq .none .none)))
theorem T26_ok : chkFn prog Tryz.f26 T26 = true := by kernel_rfl
def B26 (b_p0 : Value) (w : World) (K : Value → World → Prop) : Prop :=
  pvv prog (oEq .eql 22 (.tmp 3) (.const (.slice none 0 0)) b_p0 (.slice none 0 0)) w fun t_0 w =>
  cd t_0 (
    K (.slice none 0 0) w) <|
  efv prog (Instr.buildSlice 22 0 #[]) w fun t_1 w =>
  ef prog (oBi .append #[22, 22] 22 #[false, false] #[t_1, b_p0]) w fun t_2 w =>
  K t_2 w
theorem B26_eq (b_p0 : Value) (w : World) (K : Value → World → Prop) : denFn prog Tryz.f26 T26 [b_p0] w K = B26 b_p0 w K := by kernel_rfl
theorem c26 {b_p0 : Value} {w : World} {K : Value → World → Prop} (h : B26 b_p0 w K) : Calls prog 26 #[b_p0] w (Ret K) :=
  denFn_calls Tryz.func26 T26_ok (Eq.mpr (B26_eq b_p0 w K) h)

-- 154 unicode/utf8.RuneStart
def T154 : Ann := (.seq .none (.seq .none .none))
theorem T154_ok : chkFn prog Tryz.f154 T154 = true := by kernel_rfl
def B154 (b_p0 : Value) (w : World) (K : Value → World → Prop) : Prop :=
  pvv prog (binOp .and 5 b_p0 (.int .u8 192)) w fun t_0 w =>
  pvv prog (oEq .neq 5 (.tmp 4) (.const (.int .u8 128)) t_0 (.int .u8 128)) w fun t_1 w =>
  K t_1 w
theorem B154_eq (b_p0 : Value) (w : World) (K : Value → World → Prop) : denFn prog Tryz.f154 T154 [b_p0] w K = B154 b_p0 w K := by kernel_rfl
theorem c154 {b_p0 : Value} {w : World} {K : Value → World → Prop} (h : B154 b_p0 w K) : Calls prog 154 #[b_p0] w (Ret K) :=
  denFn_calls Tryz.func154 T154_ok (Eq.mpr (B154_eq b_p0 w K) h)

-- 148 internal/strconv.log10Pow2
def T148 : Ann := (.seq .none (.seq .none .none))
theorem T148_ok : chkFn prog Tryz.f148 T148 = true := by kernel_rfl
def B148 (x_p0 : Value) (w : World) (K : Value → World → Prop) : Prop :=
  pvv prog (binOp .mul 3 x_p0 (.int .i64 78913)) w fun t_0 w =>
  pvv prog (binOp .shr 3 t_0 (.int .u64 18)) w fun t_1 w =>
  K t_1 w
theorem B148_eq (x_p0 : Value) (w : World) (K : Value → World → Prop) : denFn prog Tryz.f148 T148 [x_p0] w K = B148 x_p0 w K := by kernel_rfl
theorem c148 {x_p0 : Value} {w : World} {K : Value → World → Prop} (h : B148 x_p0 w K) : Calls prog 148 #[x_p0] w (Ret K) :=
  denFn_calls Tryz.func148 T148_ok (Eq.mpr (B148_eq x_p0 w K) h)

-- 74 strings.HasPrefix
def T74 : Ann := (.seq .none (.seq .none .none))
theorem T74_ok : chkFn prog Tryz.f74 T74 = true := by kernel_rfl
def B74 (s_p0 prefix_p1 : Value) (w : World) (K : Value → World → Prop) : Prop :=
  Calls prog 102 #[s_p0, prefix_p1] w (Ret fun t_0 w =>
  K t_0 w)
theorem B74_eq (s_p0 prefix_p1 : Value) (w : World) (K : Value → World → Prop) : denFn prog Tryz.f74 T74 [s_p0, prefix_p1] w K = B74 s_p0 prefix_p1 w K := by kernel_rfl
theorem c74 {s_p0 prefix_p1 : Value} {w : World} {K : Value → World → Prop} (h : B74 s_p0 prefix_p1 w K) : Calls prog 74 #[s_p0, prefix_p1] w (Ret K) :=
  denFn_calls Tryz.func74 T74_ok (Eq.mpr (B74_eq s_p0 prefix_p1 w K) h)

-- 180 strings.IndexByte
def T180 : Ann := (.seq .none (.seq .none .none))
theorem T180_ok : chkFn prog Tryz.f180 T180 = true := by kernel_rfl
def B180 (s_p0 c_p1 : Value) (w : World) (K : Value → World → Prop) : Prop :=
  Calls prog 174 #[s_p0, c_p1] w (Ret fun t_0 w =>
  K t_0 w)
theorem B180_eq (s_p0 c_p1 : Value) (w : World) (K : Value → World → Prop) : denFn prog Tryz.f180 T180 [s_p0, c_p1] w K = B180 s_p0 c_p1 w K := by kernel_rfl
theorem c180 {s_p0 c_p1 : Value} {w : World} {K : Value → World → Prop} (h : B180 s_p0 c_p1 w K) : Calls prog 180 #[s_p0, c_p1] w (Ret K) :=
  denFn_calls Tryz.func180 T180_ok (Eq.mpr (B180_eq s_p0 c_p1 w K) h)

-- 5 holdfast/audit.New
def T5 : Ann := (.seq .none (.seq .none .none))
theorem T5_ok : chkFn prog Tryz.f5 T5 = true := by kernel_rfl
def B5 (w : World) (K : Value → World → Prop) : Prop :=
  pvv prog (Instr.build 69 #[]) w fun t_0 w =>
  efv prog (Instr.box 69 t_0) w fun t_1 w =>
  K t_1 w
theorem B5_eq (w : World) (K : Value → World → Prop) : denFn prog Tryz.f5 T5 [] w K = B5  w K := by kernel_rfl
theorem c5 {w : World} {K : Value → World → Prop} (h : B5  w K) : Calls prog 5 #[] w (Ret K) :=
  denFn_calls Tryz.func5 T5_ok (Eq.mpr (B5_eq  w K) h)


end Go.Proofs.YtmnaalpjhkkglaaGreatDoor
