import Derived.Test.YtjeiojibnmfibaaGreatDoorPI
set_option linter.all false
set_option maxRecDepth 100000
namespace Go.Proofs.YtjeiojibnmfibaaGreatDoor
open Go Hold
-- 9 holdfast/audit.Load
def T9 : Ann := (.seq .none (.seq .none (.seq (.seq (.draw [.op 0 .pure, .op 1 .pure, .op 2 .pure, .op 3 .pure, .op 4 .pure, .op 5 .pure, .op 6 .pure, .op 7 .pure, .op 8 .pure, .op 9 .pure, .op 10 .pure, .op 11 .pure, .op 12 .load, .op 13 .pure, .op 14 .pure, .op 15 .pure, .op 16 .pure, .op 17 .pure, .op 18 .pure, .op 20 .pure, .op 21 .pure, .op 22 .pure, .op 23 .pure, .op 24 .pure, .op 25 .pure, .op 26 .pure, .op 27 .pure, .op 28 .pure, .op 29 .pure, .op 30 .pure, .op 19 .load, .op 31 .eff, .op 32 .eff, .op 33 .pure, .op 34 .pure]) (.seq (.seq .none .none) .none)) (.seq (.draw [.op 0 .pure, .op 1 .pure, .op 2 .pure, .op 3 .pure, .op 5 .pure, .op 6 .pure, .op 7 .pure, .op 8 .pure, .op 10 .pure, .op 11 .pure, .op 12 .pure, .op 4 .load, .op 9 .load, .op 13 .load, .op 14 .pure, .op 15 .pure, .op 16 .pure, .op 17 .pure, .op 18 .pure, .op 19 .pure, .op 20 .pure, .op 22 .pure, .op 23 .pure, .op 24 .pure, .op 25 .pure, .op 27 .pure, .op 28 .pure, .op 21 .load, .op 26 .load, .op 29 .pure, .op 30 .pure, .op 31 .pure, .op 32 .pure, .op 33 .pure]) (.seq (.seq (.draw [.op 0 .pure, .op 1 .pure, .op 2 .pure, .op 3 .pure, .op 4 .pure, .op 6 .pure, .op 7 .pure, .op 8 .pure, .op 9 .pure, .op 5 .load, .op 10 .eff, .op 11 .pure, .op 12 .pure, .op 13 .pure, .op 14 .pure, .op 15 .pure, .op 17 .pure, .op 18 .pure, .op 19 .pure, .op 20 .pure, .op 16 .load, .op 21 .eff, .op 22 .pure, .op 23 .pure, .op 24 .pure, .op 25 .pure, .op 26 .pure, .op 28 .pure, .op 29 .pure, .op 30 .pure, .op 27 .load, .op 31 .eff, .op 32 .pure, .op 33 .pure]) (.seq (.seq .none .none) .none)) (.seq .none (.seq (.seq .none (.block (.loop 1606938044258990275541962009264412865964960937294851567780812 [6, 116] (.seq .none (.seq (.seq .none .none) (.seq (.block (.seq .none (.seq .none (.seq (.seq (.draw [.op 0 .pure, .op 2 .pure, .op 1 .load, .op 3 .load, .op 4 .eff, .op 5 .pure, .op 6 .pure, .op 7 .pure, .op 8 .pure, .op 9 .load, .op 10 .pure, .op 11 .pure, .op 12 .pure, .op 13 .pure, .op 14 .pure, .op 17 .pure, .op 15 .load, .op 16 .pure, .op 18 .eff, .op 19 .eff, .op 20 .pure, .op 21 .pure]) (.seq (.seq .none .none) .none)) (.seq (.draw [.op 0 .pure, .op 4 .pure, .op 1 .load, .op 2 .pure, .op 3 .load, .op 5 .load, .op 6 .pure, .op 7 .load, .op 8 .pure, .op 9 .eff, .op 10 .pure, .op 11 .eff]) (.seq (.seq (.draw [.op 0 .pure, .op 1 .load, .op 2 .pure, .op 3 .pure, .op 4 .pure, .op 5 .pure, .op 6 .load, .op 7 .pure, .op 8 .pure, .op 9 .pure, .op 10 .pure, .op 11 .pure, .op 13 .pure, .op 12 .load, .op 14 .pure, .op 15 .pure, .op 16 .pure, .op 17 .pure, .op 19 .pure, .op 20 .pure, .op 21 .pure, .op 18 .load, .op 22 .load, .op 23 .pure, .op 24 .pure]) (.seq (.seq .none .none) .none)) (.seq .none (.draw [.op 0 .pure, .op 1 .pure, .op 2 .pure, .op 3 .pure, .op 4 .load, .op 5 .load, .op 6 .eff, .op 7 .eff, .op 8 .pure, .op 9 .pure, .op 10 .eff])))))))) .none)))))) (.seq .none .none))))))))
theorem T9_ok : chkFn prog Tryz.f9 T9 = true := by kernel_rfl
def B9 (rows_p0 : Value) (w : World) (K : Value → World → Prop) : Prop :=
  Calls prog 4 #[] w (Ret fun t_0 w =>
  dr w fun w =>
  pv prog (oBi .len #[31] 3 #[false] #[rows_p0]) w fun t_1 w =>
  pvv prog (binOp .lss 3 t_1 (.int .i64 4)) w fun t_2 w =>
  gate (some (t_2, false)) (fun K => K rows_p0 w) w fun t_3 w =>
  gate (some (t_2, false)) (fun K => pv prog (oBi .len #[31] 3 #[false] #[t_3]) w K) w fun t_4 w =>
  gate (some (t_2, false)) (fun K => pvv prog (binOp .gtr 3 t_4 (.int .i64 68)) w K) w fun t_5 w =>
  pv prog (oPick t_2 (.bool true) t_5) w fun t_6 w =>
  gate (some (t_6, false)) (fun K => K rows_p0 w) w fun t_7 w =>
  gate (some (t_6, false)) (fun K => pvv prog (Instr.indexAt 31 t_7 (.int .i64 0)) w K) w fun t_8 w =>
  gate (some (t_6, false)) (fun K => pvv prog (Instr.fieldAt 35 t_8 0) w K) w fun t_9 w =>
  bindS (vN (Instr.loadAt 9 t_9)) fun m_11 => gate (some (t_6, false)) (fun K => ldv prog (Instr.loadAt 9 t_9) w K) w fun t_10 w =>
  gate (some (t_6, false)) (fun K => pvv prog (oEq .neq 9 (.tmp 23) (.const (.string ⟨#[35]⟩)) t_10 (.string ⟨#[35]⟩)) w K) w fun t_12 w =>
  pv prog (oPick t_6 (.bool true) t_12) w fun t_13 w =>
  gate (some (t_13, false)) (fun K => K rows_p0 w) w fun t_14 w =>
  gate (some (t_13, false)) (fun K => pvv prog (Instr.indexAt 31 t_14 (.int .i64 0)) w K) w fun t_15 w =>
  gate (some (t_13, false)) (fun K => pvv prog (Instr.fieldAt 35 t_15 1) w K) w fun t_16 w =>
  gate (some (t_13, false)) (fun K => K t_0 w) w fun t_17 w =>
  gate (some (t_13, false)) (fun K => pv prog (oNil t_17) w K) w fun t_18 w =>
  gate (some (t_13, false)) (fun K => pvv prog (Instr.fieldAt 52 t_18 0) w K) w fun t_19 w =>
  gate (some (t_13, false)) (fun K => pvv prog (Instr.fieldAt 50 t_19 0) w K) w fun t_20 w =>
  gate (some (t_13, false)) (fun K => K t_0 w) w fun t_21 w =>
  gate (some (t_13, false)) (fun K => pv prog (oNil t_21) w K) w fun t_22 w =>
  gate (some (t_13, false)) (fun K => pvv prog (Instr.fieldAt 52 t_22 1) w K) w fun t_23 w =>
  gate (some (t_13, false)) (fun K => pvv prog (Instr.fieldAt 50 t_23 0) w K) w fun t_24 w =>
  gate (some (t_13, false)) (fun K => K t_0 w) w fun t_25 w =>
  gate (some (t_13, false)) (fun K => pv prog (oNil t_25) w K) w fun t_26 w =>
  gate (some (t_13, false)) (fun K => pvv prog (Instr.fieldAt 52 t_26 3) w K) w fun t_27 w =>
  bindS (vN (Instr.loadAt 33 t_16)) fun m_29 => gate (some (t_13, false)) (fun K => ldv prog (Instr.loadAt 33 t_16) w K) w fun t_28 w =>
  gate (some (t_13, false)) (fun K => efv prog (Instr.buildSlice 85 3 #[(0, t_20), (1, t_24), (2, t_27)]) w fun s_213 w => stay prog (some (t_13, false)) m_29 t_28 w <| stay prog (some (t_6, false)) m_11 t_10 w <| K s_213 w) w fun t_30 w =>
  gate (some (t_13, false)) (fun K => Calls prog 26 #[t_28, t_30] w (Ret fun s_212 w => stay prog (some (t_6, false)) m_11 t_10 w <| K s_212 w)) w fun t_31 w =>
  gate (some (t_13, false)) (fun K => pvv prog (Op.unary .not t_31) w K) w fun t_32 w =>
  pv prog (oPick t_13 (.bool true) t_32) w fun t_33 w =>
  cd t_33 (
    K (.tuple #[(.pointer none), (.int .i64 3)]) w) <|
  dr w fun w =>
  pv prog (oNil t_0) w fun t_34 w =>
  pvv prog (Instr.fieldAt 52 t_34 0) w fun t_35 w =>
  pvv prog (Instr.fieldAt 50 t_35 0) w fun t_36 w =>
  pv prog (oNil t_0) w fun t_37 w =>
  pvv prog (Instr.fieldAt 52 t_37 1) w fun t_38 w =>
  pvv prog (Instr.fieldAt 50 t_38 0) w fun t_39 w =>
  pv prog (oNil t_0) w fun t_40 w =>
  pvv prog (Instr.fieldAt 52 t_40 3) w fun t_41 w =>
  bindS (vN (Instr.loadAt 3 t_36)) fun m_43 => ldv prog (Instr.loadAt 3 t_36) w fun t_42 w =>
  bindS (vN (Instr.loadAt 3 t_39)) fun m_45 => ldv prog (Instr.loadAt 3 t_39) w fun t_44 w =>
  bindS (vN (Instr.loadAt 3 t_41)) fun m_47 => ldv prog (Instr.loadAt 3 t_41) w fun t_46 w =>
  pv prog (oBi .max #[3, 3, 3] 3 #[false, false, false] #[t_42, t_44, t_46]) w fun t_48 w =>
  pvv prog (binOp .leq 3 t_48 (.int .i64 1099511627776)) w fun t_49 w =>
  gate (some (t_49, true)) (fun K => K t_0 w) w fun t_50 w =>
  gate (some (t_49, true)) (fun K => pv prog (oNil t_50) w K) w fun t_51 w =>
  gate (some (t_49, true)) (fun K => pvv prog (Instr.fieldAt 52 t_51 1) w K) w fun t_52 w =>
  gate (some (t_49, true)) (fun K => pvv prog (Instr.fieldAt 50 t_52 0) w K) w fun t_53 w =>
  gate (some (t_49, true)) (fun K => K t_0 w) w fun t_54 w =>
  gate (some (t_49, true)) (fun K => pv prog (oNil t_54) w K) w fun t_55 w =>
  gate (some (t_49, true)) (fun K => pvv prog (Instr.fieldAt 52 t_55 0) w K) w fun t_56 w =>
  gate (some (t_49, true)) (fun K => pvv prog (Instr.fieldAt 50 t_56 0) w K) w fun t_57 w =>
  gate (some (t_49, true)) (fun K => K rows_p0 w) w fun t_58 w =>
  gate (some (t_49, true)) (fun K => pv prog (oBi .len #[31] 3 #[false] #[t_58]) w K) w fun t_59 w =>
  bindS (vN (Instr.loadAt 3 t_53)) fun m_61 => gate (some (t_49, true)) (fun K => ldv prog (Instr.loadAt 3 t_53) w K) w fun t_60 w =>
  bindS (vN (Instr.loadAt 3 t_57)) fun m_63 => gate (some (t_49, true)) (fun K => ldv prog (Instr.loadAt 3 t_57) w K) w fun t_62 w =>
  gate (some (t_49, true)) (fun K => pvv prog (binOp .add 3 t_62 t_59) w K) w fun t_64 w =>
  gate (some (t_49, true)) (fun K => pvv prog (binOp .sub 3 t_64 (.int .i64 4)) w K) w fun t_65 w =>
  gate (some (t_49, true)) (fun K => pvv prog (binOp .leq 3 t_60 t_65) w K) w fun t_66 w =>
  pv prog (oPick t_49 t_66 (.bool false)) w fun t_67 w =>
  dr w fun w =>
  pvv prog (Op.unary .not t_67) w fun t_68 w =>
  gate (some (t_68, false)) (fun K => K rows_p0 w) w fun t_69 w =>
  gate (some (t_68, false)) (fun K => pvv prog (Instr.indexAt 31 t_69 (.int .i64 1)) w K) w fun t_70 w =>
  gate (some (t_68, false)) (fun K => K t_0 w) w fun t_71 w =>
  gate (some (t_68, false)) (fun K => pv prog (oNil t_71) w K) w fun t_72 w =>
  gate (some (t_68, false)) (fun K => pvv prog (Instr.fieldAt 52 t_72 1) w K) w fun t_73 w =>
  gate (some (t_68, false)) (fun K => pvv prog (Instr.fieldAt 50 t_73 1) w K) w fun t_74 w =>
  bindS (vN (Instr.loadAt 35 t_70)) fun m_76 => gate (some (t_68, false)) (fun K => ldv prog (Instr.loadAt 35 t_70) w K) w fun t_75 w =>
  gate (some (t_68, false)) (fun K => Calls prog 27 #[t_75, (.string ⟨#[97]⟩), t_74] w (Ret fun s_211 w => K s_211 w)) w fun t_77 w =>
  gate (some (t_68, false)) (fun K => pvv prog (Op.unary .not t_77) w K) w fun t_78 w =>
  pv prog (oPick t_68 (.bool true) t_78) w fun t_79 w =>
  gate (some (t_79, false)) (fun K => K rows_p0 w) w fun t_80 w =>
  gate (some (t_79, false)) (fun K => pvv prog (Instr.indexAt 31 t_80 (.int .i64 2)) w K) w fun t_81 w =>
  gate (some (t_79, false)) (fun K => K t_0 w) w fun t_82 w =>
  gate (some (t_79, false)) (fun K => pv prog (oNil t_82) w K) w fun t_83 w =>
  gate (some (t_79, false)) (fun K => pvv prog (Instr.fieldAt 52 t_83 0) w K) w fun t_84 w =>
  gate (some (t_79, false)) (fun K => pvv prog (Instr.fieldAt 50 t_84 1) w K) w fun t_85 w =>
  bindS (vN (Instr.loadAt 35 t_81)) fun m_87 => gate (some (t_79, false)) (fun K => ldv prog (Instr.loadAt 35 t_81) w K) w fun t_86 w =>
  gate (some (t_79, false)) (fun K => Calls prog 27 #[t_86, (.string ⟨#[98]⟩), t_85] w (Ret fun s_210 w => stay prog (some (t_68, false)) m_76 t_75 w <| K s_210 w)) w fun t_88 w =>
  gate (some (t_79, false)) (fun K => pvv prog (Op.unary .not t_88) w K) w fun t_89 w =>
  pv prog (oPick t_79 (.bool true) t_89) w fun t_90 w =>
  gate (some (t_90, false)) (fun K => K rows_p0 w) w fun t_91 w =>
  gate (some (t_90, false)) (fun K => pvv prog (Instr.indexAt 31 t_91 (.int .i64 3)) w K) w fun t_92 w =>
  gate (some (t_90, false)) (fun K => K t_0 w) w fun t_93 w =>
  gate (some (t_90, false)) (fun K => pv prog (oNil t_93) w K) w fun t_94 w =>
  gate (some (t_90, false)) (fun K => pvv prog (Instr.fieldAt 52 t_94 2) w K) w fun t_95 w =>
  bindS (vN (Instr.loadAt 35 t_92)) fun m_97 => gate (some (t_90, false)) (fun K => ldv prog (Instr.loadAt 35 t_92) w K) w fun t_96 w =>
  gate (some (t_90, false)) (fun K => Calls prog 27 #[t_96, (.string ⟨#[104]⟩), t_95] w (Ret fun s_209 w => stay prog (some (t_79, false)) m_87 t_86 w <| stay prog (some (t_68, false)) m_76 t_75 w <| K s_209 w)) w fun t_98 w =>
  gate (some (t_90, false)) (fun K => pvv prog (Op.unary .not t_98) w K) w fun t_99 w =>
  pv prog (oPick t_90 (.bool true) t_99) w fun t_100 w =>
  cd t_100 (
    K (.tuple #[(.pointer none), (.int .i64 3)]) w) <|
  pvv prog (Instr.sliceAt 31 rows_p0 (some (.int .i64 4)) none none) w fun t_101 w =>
  pv prog (oBi .len #[31] 3 #[false] #[t_101]) w fun t_102 w =>
  lp (fun σ w again_105 => pop σ fun before_103 σ => pop σ fun t_104 σ => fin σ <|
    pvv prog (binOp .lss 3 t_104 t_102) w fun t_106 w =>
    cd t_106 (
      pvv prog (Instr.indexAt 31 t_101 t_104) w fun t_107 w =>
      ldv prog (Instr.loadAt 35 t_107) w fun t_108 w =>
      efv prog (Instr.alloc 35 true (.tuple #[])) w fun r_109 w =>
      efu prog (Instr.storeAt 35 r_109 t_108) w fun u_110 w =>
      pv prog (oNil t_0) w fun t_111 w =>
      pvv prog (Instr.fieldAt 52 t_111 0) w fun t_112 w =>
      pvv prog (Instr.fieldAt 50 t_112 0) w fun t_113 w =>
      ldv prog (Instr.loadAt 3 t_113) w fun t_114 w =>
      pvv prog (binOp .add 3 t_114 t_104) w fun t_115 w =>
      pvv prog (binOp .add 3 t_115 (.int .i64 1)) w fun t_116 w =>
      pvv prog (Instr.build 56 #[(0, t_116)]) w fun t_117 w =>
      efv prog (Instr.alloc 56 true (.tuple #[])) w fun x_118 w =>
      efu prog (Instr.storeAt 56 x_118 t_117) w fun u_119 w =>
      dr w fun w =>
      pvv prog (Instr.fieldAt 35 r_109 0) w fun t_120 w =>
      pvv prog (Instr.fieldAt 56 x_118 0) w fun t_121 w =>
      bindS (vN (Instr.loadAt 9 t_120)) fun m_123 => ldv prog (Instr.loadAt 9 t_120) w fun t_122 w =>
      bindS (vN (Instr.loadAt 3 t_121)) fun m_125 => ldv prog (Instr.loadAt 3 t_121) w fun t_124 w =>
      Calls prog 28 #[t_124] w (Ret fun t_126 w => stay prog none m_123 t_122 w <| 
      pvv prog (binOp .add 9 (.string ⟨#[110]⟩) t_126) w fun t_127 w =>
      pvv prog (oEq .neq 9 (.tmp 131) (.tmp 135) t_122 t_127) w fun t_128 w =>
      gate (some (t_128, false)) (fun K => pvv prog (Instr.fieldAt 35 r_109 1) w K) w fun t_129 w =>
      bindS (vN (Instr.loadAt 33 t_129)) fun m_131 => gate (some (t_128, false)) (fun K => ldv prog (Instr.loadAt 33 t_129) w K) w fun t_130 w =>
      gate (some (t_128, false)) (fun K => pv prog (oBi .len #[33] 3 #[false] #[t_130]) w K) w fun t_132 w =>
      gate (some (t_128, false)) (fun K => pvv prog (oEq .neq 3 (.tmp 140) (.const (.int .i64 3)) t_132 (.int .i64 3)) w K) w fun t_133 w =>
      pv prog (oPick t_128 (.bool true) t_133) w fun t_134 w =>
      gate (some (t_134, false)) (fun K => pvv prog (Instr.fieldAt 35 r_109 1) w K) w fun t_135 w =>
      gate (some (t_134, false)) (fun K => pvv prog (Instr.fieldAt 56 x_118 1) w K) w fun t_136 w =>
      bindS (vN (Instr.loadAt 33 t_135)) fun m_138 => gate (some (t_134, false)) (fun K => ldv prog (Instr.loadAt 33 t_135) w K) w fun t_137 w =>
      gate (some (t_134, false)) (fun K => pvv prog (Instr.sliceAt 33 t_137 none (some (.int .i64 1)) none) w K) w fun t_139 w =>
      gate (some (t_134, false)) (fun K => efv prog (Instr.buildSlice 85 1 #[(0, t_136)]) w fun s_207 w => stay prog (some (t_134, false)) m_138 t_137 w <| stay prog (some (t_128, false)) m_131 t_130 w <| stay prog none m_125 t_124 w <| stay prog none m_123 t_122 w <| K s_207 w) w fun t_140 w =>
      gate (some (t_134, false)) (fun K => Calls prog 26 #[t_139, t_140] w (Ret fun s_206 w => stay prog (some (t_134, false)) m_138 t_137 w <| stay prog (some (t_128, false)) m_131 t_130 w <| stay prog none m_125 t_124 w <| stay prog none m_123 t_122 w <| K s_206 w)) w fun t_141 w =>
      gate (some (t_134, false)) (fun K => pvv prog (Op.unary .not t_141) w K) w fun t_142 w =>
      pv prog (oPick t_134 (.bool true) t_142) w fun t_143 w =>
      cd t_143 (
        K (.tuple #[(.pointer none), (.int .i64 3)]) w) <|
      dr w fun w =>
      pvv prog (Instr.fieldAt 35 r_109 1) w fun t_144 w =>
      pvv prog (Instr.fieldAt 35 r_109 1) w fun t_145 w =>
      bindS (vN (Instr.loadAt 33 t_144)) fun m_147 => ldv prog (Instr.loadAt 33 t_144) w fun t_146 w =>
      pvv prog (Instr.indexAt 33 t_146 (.int .i64 1)) w fun t_148 w =>
      bindS (vN (Instr.loadAt 9 t_148)) fun m_150 => ldv prog (Instr.loadAt 9 t_148) w fun t_149 w =>
      bindS (vN (Instr.loadAt 33 t_145)) fun m_152 => ldv prog (Instr.loadAt 33 t_145) w fun t_151 w =>
      pvv prog (Instr.indexAt 33 t_151 (.int .i64 2)) w fun t_153 w =>
      bindS (vN (Instr.loadAt 9 t_153)) fun m_155 => ldv prog (Instr.loadAt 9 t_153) w fun t_154 w =>
      pvv prog (Instr.fieldAt 56 x_118 2) w fun t_156 w =>
      efu prog (Instr.storeAt 9 t_156 t_149) w fun u_157 w => stay prog none m_152 t_151 w <| 
      pvv prog (Instr.fieldAt 56 x_118 3) w fun t_158 w =>
      efu prog (Instr.storeAt 9 t_158 t_154) w fun u_159 w =>
      dr w fun w =>
      pvv prog (Instr.fieldAt 56 x_118 2) w fun t_160 w =>
      bindS (vN (Instr.loadAt 9 t_160)) fun m_162 => ldv prog (Instr.loadAt 9 t_160) w fun t_161 w =>
      pv prog (oBi .len #[9] 3 #[false] #[t_161]) w fun t_163 w =>
      pvv prog (binOp .gtr 3 t_163 (.int .i64 12)) w fun t_164 w =>
      gate (some (t_164, false)) (fun K => pvv prog (Instr.fieldAt 56 x_118 3) w K) w fun t_165 w =>
      bindS (vN (Instr.loadAt 9 t_165)) fun m_167 => gate (some (t_164, false)) (fun K => ldv prog (Instr.loadAt 9 t_165) w K) w fun t_166 w =>
      gate (some (t_164, false)) (fun K => pv prog (oBi .len #[9] 3 #[false] #[t_166]) w K) w fun t_168 w =>
      gate (some (t_164, false)) (fun K => pvv prog (binOp .gtr 3 t_168 (.int .i64 30)) w K) w fun t_169 w =>
      pv prog (oPick t_164 (.bool true) t_169) w fun t_170 w =>
      gate (some (t_170, false)) (fun K => pvv prog (Instr.fieldAt 56 x_118 1) w K) w fun t_171 w =>
      gate (some (t_170, false)) (fun K => K before_103 w) w fun t_172 w =>
      bindS (vN (Instr.loadAt 3 t_171)) fun m_174 => gate (some (t_170, false)) (fun K => ldv prog (Instr.loadAt 3 t_171) w K) w fun t_173 w =>
      gate (some (t_170, false)) (fun K => pvv prog (binOp .lss 3 t_173 t_172) w K) w fun t_175 w =>
      pv prog (oPick t_170 (.bool true) t_175) w fun t_176 w =>
      gate (some (t_176, false)) (fun K => pvv prog (Instr.fieldAt 56 x_118 1) w K) w fun t_177 w =>
      gate (some (t_176, false)) (fun K => K t_0 w) w fun t_178 w =>
      gate (some (t_176, false)) (fun K => pv prog (oNil t_178) w K) w fun t_179 w =>
      gate (some (t_176, false)) (fun K => pvv prog (Instr.fieldAt 52 t_179 3) w K) w fun t_180 w =>
      bindS (vN (Instr.loadAt 3 t_177)) fun m_182 => gate (some (t_176, false)) (fun K => ldv prog (Instr.loadAt 3 t_177) w K) w fun t_181 w =>
      bindS (vN (Instr.loadAt 3 t_180)) fun m_184 => gate (some (t_176, false)) (fun K => ldv prog (Instr.loadAt 3 t_180) w K) w fun t_183 w =>
      gate (some (t_176, false)) (fun K => pvv prog (binOp .gtr 3 t_181 t_183) w K) w fun t_185 w =>
      pv prog (oPick t_176 (.bool true) t_185) w fun t_186 w =>
      cd t_186 (
        K (.tuple #[(.pointer none), (.int .i64 3)]) w) <|
      pvv prog (Instr.fieldAt 56 x_118 1) w fun t_187 w =>
      ldv prog (Instr.loadAt 3 t_187) w fun t_188 w =>
      dr w fun w =>
      pv prog (oNil t_0) w fun t_189 w =>
      pvv prog (Instr.fieldAt 52 t_189 4) w fun t_190 w =>
      bindS (vN (Instr.loadAt 41 t_190)) fun m_192 => ldv prog (Instr.loadAt 41 t_190) w fun t_191 w =>
      bindS (vN (Instr.loadAt 56 x_118)) fun m_194 => ldv prog (Instr.loadAt 56 x_118) w fun t_193 w =>
      efv prog (Instr.buildSlice 41 1 #[(0, t_193)]) w fun t_195 w => stay prog none m_192 t_191 w <| 
      ef prog (oBi .append #[41, 41] 41 #[false, false] #[t_191, t_195]) w fun t_196 w => stay prog none m_194 t_193 w <| 
      pv prog (oNil t_0) w fun t_197 w =>
      pvv prog (Instr.fieldAt 52 t_197 4) w fun t_198 w =>
      efu prog (Instr.storeAt 41 t_198 t_196) w fun u_199 w =>
      pvv prog (binOp .add 3 t_104 (.int .i64 1)) w fun t_200 w =>
      again_105 [t_188, t_200] w)) <|
    K (.tuple #[t_0, (.int .i64 0)]) w) [(.int .i64 0), (.int .i64 0)] w)
theorem B9_eq (rows_p0 : Value) (w : World) (K : Value → World → Prop) : denFn prog Tryz.f9 T9 [rows_p0] w K = B9 rows_p0 w K := by kernel_rfl
theorem c9 {rows_p0 : Value} {w : World} {K : Value → World → Prop} (h : B9 rows_p0 w K) : Calls prog 9 #[rows_p0] w (Ret K) :=
  denFn_calls Tryz.func9 T9_ok (Eq.mpr (B9_eq rows_p0 w K) h)

-- 66 internal/strconv.ParseUint
def T66 : Ann := (.seq .none (.seq (.seq .none (.seq (.seq .none .none) .none)) (.seq .none (.seq .none (.meet 75557863725914306642115 [0, 1] (.block (.seq .none (.seq .none (.seq .none (.seq (.seq .none (.seq .none (.seq (.block (.seq .none (.seq (.seq .none .none) (.seq .none (.seq (.seq .none .none) (.seq .none (.seq (.seq .none .none) (.seq .none .none)))))))) .none))) (.seq .none .none)))))) (.meet 38610068363942219267178692 [2] (.seq .none (.seq .none (.seq .none (.seq (.seq .none .none) .none)))) (.seq .none (.meet 19768355002338416264795390976 [10] (.seq .none (.block (.seq .none (.seq .none (.seq .none (.seq .none .none)))))) (.seq .none (.seq .none (.seq .none (.seq (.seq .none (.block (.loop 23384026197294446688723656123004069511501514518720 [12, 13, 101] (.seq .none (.seq (.seq .none .none) (.meet 11692013098647223335488273859904428945273834942656 [12, 13] (.block (.seq .none (.seq .none (.meet 21778071442375242454352634027738663030976 [12, 16] (.block (.seq .none (.seq (.seq .none .none) (.seq .none (.seq .none (.seq .none (.seq .none (.seq .none .none)))))))) (.seq (.seq .none (.seq (.seq .none .none) .none)) (.seq (.seq .none (.seq (.seq .none .none) .none)) (.seq .none (.seq .none (.seq (.seq .none (.seq (.seq .none .none) .none)) .none))))))))) .none)))))) (.seq (.seq .none (.seq (.seq .none .none) .none)) (.seq .none .none))))))))))))))
theorem T66_ok : chkFn prog Tryz.f66 T66 = true := by kernel_rfl
def B66 (s_p0 base_p1 bitSize_p2 : Value) (w : World) (K : Value → World → Prop) : Prop :=
  pvv prog (oEq .eql 9 (.tmp 18) (.const (.string ⟨#[]⟩)) s_p0 (.string ⟨#[]⟩)) w fun t_0 w =>
  cd t_0 (
    pvv prog (Instr.makeInterface 123 (.int .i64 2)) w fun t_1 w =>
    K (.tuple #[(.int .u64 0), t_1]) w) <|
  pvv prog (oEq .eql 3 (.tmp 21) (.const (.int .i64 0)) base_p1 (.int .i64 0)) w fun t_2 w =>
  jn (fun σ w => pop σ fun s_3 σ => pop σ fun base_4 σ => fin σ <|
    jn (fun σ w => pop σ fun bitSize_5 σ => fin σ <|
      jn (fun σ w => pop σ fun cutoff_6 σ => fin σ <|
        pvv prog (convert 3 103 bitSize_5) w fun t_7 w =>
        pvv prog (binOp .shl 94 (.int .u64 1) t_7) w fun t_8 w =>
        pvv prog (binOp .sub 94 t_8 (.int .u64 1)) w fun t_9 w =>
        efv prog (convert 9 74 s_3) w fun t_10 w =>
        pv prog (oBi .len #[74] 3 #[false] #[t_10]) w fun t_11 w =>
        lp (fun σ w again_15 => pop σ fun underscores_12 σ => pop σ fun n_13 σ => pop σ fun t_14 σ => fin σ <|
          pvv prog (binOp .lss 3 t_14 t_11) w fun t_16 w =>
          cd t_16 (
            jn (fun σ w => pop σ fun underscores_17 σ => pop σ fun n_18 σ => fin σ <|
              pvv prog (binOp .add 3 t_14 (.int .i64 1)) w fun t_19 w =>
              again_15 [underscores_17, n_18, t_19] w) fun k_20 =>
            pvv prog (Instr.indexAt 74 t_10 t_14) w fun t_21 w =>
            ldv prog (Instr.loadAt 5 t_21) w fun t_22 w =>
            jn (fun σ w => pop σ fun underscores_23 σ => pop σ fun d_24 σ => fin σ <|
              pvv prog (convert 3 5 base_4) w fun t_25 w =>
              pvv prog (binOp .geq 5 d_24 t_25) w fun t_26 w =>
              cd t_26 (
                pvv prog (Instr.makeInterface 123 (.int .i64 2)) w fun t_27 w =>
                K (.tuple #[(.int .u64 0), t_27]) w) <|
              pvv prog (binOp .geq 94 n_13 cutoff_6) w fun t_28 w =>
              cd t_28 (
                pvv prog (Instr.makeInterface 123 (.int .i64 1)) w fun t_29 w =>
                K (.tuple #[t_9, t_29]) w) <|
              pvv prog (convert 3 94 base_4) w fun t_30 w =>
              pvv prog (binOp .mul 94 n_13 t_30) w fun t_31 w =>
              pvv prog (convert 5 94 d_24) w fun t_32 w =>
              pvv prog (binOp .add 94 t_31 t_32) w fun t_33 w =>
              pvv prog (binOp .lss 94 t_33 t_31) w fun t_34 w =>
              gate (some (t_34, false)) (fun K => K t_33 w) w fun t_35 w =>
              gate (some (t_34, false)) (fun K => K t_9 w) w fun t_36 w =>
              gate (some (t_34, false)) (fun K => pvv prog (binOp .gtr 94 t_35 t_36) w K) w fun t_37 w =>
              pv prog (oPick t_34 (.bool true) t_37) w fun t_38 w =>
              cd t_38 (
                pvv prog (Instr.makeInterface 123 (.int .i64 1)) w fun t_39 w =>
                K (.tuple #[t_9, t_39]) w) <|
              k_20 [underscores_23, t_33] w) fun k_40 =>
            pvv prog (oEq .eql 5 (.tmp 107) (.const (.int .u8 95)) t_22 (.int .u8 95)) w fun t_41 w =>
            gate (some (t_41, true)) (fun K => K t_2 w) w fun t_42 w =>
            pv prog (oPick t_41 t_42 (.bool false)) w fun t_43 w =>
            cd t_43 (
              k_20 [(.bool true), n_13] w) <|
            pvv prog (binOp .leq 5 (.int .u8 48) t_22) w fun t_44 w =>
            gate (some (t_44, true)) (fun K => K t_22 w) w fun t_45 w =>
            gate (some (t_44, true)) (fun K => pvv prog (binOp .leq 5 t_45 (.int .u8 57)) w K) w fun t_46 w =>
            pv prog (oPick t_44 t_46 (.bool false)) w fun t_47 w =>
            cd t_47 (
              pvv prog (binOp .sub 5 t_22 (.int .u8 48)) w fun t_48 w =>
              k_40 [underscores_12, t_48] w) <|
            Calls prog 77 #[t_22] w (Ret fun t_49 w =>
            pvv prog (binOp .leq 5 (.int .u8 97) t_49) w fun t_50 w =>
            gate (some (t_50, true)) (fun K => K t_22 w) w fun t_51 w =>
            gate (some (t_50, true)) (fun K => Calls prog 77 #[t_51] w (Ret K)) w fun t_52 w =>
            gate (some (t_50, true)) (fun K => pvv prog (binOp .leq 5 t_52 (.int .u8 122)) w K) w fun t_53 w =>
            pv prog (oPick t_50 t_53 (.bool false)) w fun t_54 w =>
            cd t_54 (
              Calls prog 77 #[t_22] w (Ret fun t_55 w =>
              pvv prog (binOp .sub 5 t_55 (.int .u8 97)) w fun t_56 w =>
              pvv prog (binOp .add 5 t_56 (.int .u8 10)) w fun t_57 w =>
              k_40 [underscores_12, t_57] w)) <|
            pvv prog (Instr.makeInterface 123 (.int .i64 2)) w fun t_58 w =>
            K (.tuple #[(.int .u64 0), t_58]) w)) <|
          gate (some (underscores_12, true)) (fun K => K s_p0 w) w fun t_59 w =>
          gate (some (underscores_12, true)) (fun K => Calls prog 78 #[t_59] w (Ret K)) w fun t_60 w =>
          gate (some (underscores_12, true)) (fun K => pvv prog (Op.unary .not t_60) w K) w fun t_61 w =>
          pv prog (oPick underscores_12 t_61 (.bool false)) w fun t_62 w =>
          cd t_62 (
            pvv prog (Instr.makeInterface 123 (.int .i64 2)) w fun t_63 w =>
            K (.tuple #[(.int .u64 0), t_63]) w) <|
          K (.tuple #[n_13, .nilIface]) w) [(.bool false), (.int .u64 0), (.int .i64 0)] w) fun k_64 =>
      pvv prog (oEq .eql 3 (.tmp 85) (.const (.int .i64 10)) base_4 (.int .i64 10)) w fun t_65 w =>
      cd t_65 (
        k_64 [(.int .u64 1844674407370955162)] w) <|
      pvv prog (oEq .eql 3 (.tmp 85) (.const (.int .i64 16)) base_4 (.int .i64 16)) w fun t_66 w =>
      cd t_66 (
        k_64 [(.int .u64 1152921504606846976)] w) <|
      pvv prog (convert 3 94 base_4) w fun t_67 w =>
      pvv prog (binOp .quo 94 (.int .u64 18446744073709551615) t_67) w fun t_68 w =>
      pvv prog (binOp .add 94 t_68 (.int .u64 1)) w fun t_69 w =>
      k_64 [t_69] w) fun k_70 =>
    pvv prog (oEq .eql 3 (.tmp 76) (.const (.int .i64 0)) bitSize_p2 (.int .i64 0)) w fun t_71 w =>
    cd t_71 (
      k_70 [(.int .i64 64)] w) <|
    pvv prog (binOp .lss 3 bitSize_p2 (.int .i64 0)) w fun t_72 w =>
    gate (some (t_72, false)) (fun K => K bitSize_p2 w) w fun t_73 w =>
    gate (some (t_72, false)) (fun K => pvv prog (binOp .gtr 3 t_73 (.int .i64 64)) w K) w fun t_74 w =>
    pv prog (oPick t_72 (.bool true) t_74) w fun t_75 w =>
    cd t_75 (
      pvv prog (Instr.makeInterface 123 (.int .i64 4)) w fun t_76 w =>
      K (.tuple #[(.int .u64 0), t_76]) w) <|
    k_70 [bitSize_p2] w) fun k_77 =>
  pvv prog (binOp .leq 3 (.int .i64 2) base_p1) w fun t_78 w =>
  gate (some (t_78, true)) (fun K => K base_p1 w) w fun t_79 w =>
  gate (some (t_78, true)) (fun K => pvv prog (binOp .leq 3 t_79 (.int .i64 36)) w K) w fun t_80 w =>
  pv prog (oPick t_78 t_80 (.bool false)) w fun t_81 w =>
  cd t_81 (
    k_77 [s_p0, base_p1] w) <|
  pvv prog (oEq .eql 3 (.tmp 33) (.const (.int .i64 0)) base_p1 (.int .i64 0)) w fun t_82 w =>
  cd t_82 (
    pvv prog (Instr.index 9 s_p0 (.int .i64 0)) w fun t_83 w =>
    pvv prog (oEq .eql 5 (.tmp 36) (.const (.int .u8 48)) t_83 (.int .u8 48)) w fun t_84 w =>
    cd t_84 (
      pv prog (oBi .len #[9] 3 #[false] #[s_p0]) w fun t_85 w =>
      pvv prog (binOp .geq 3 t_85 (.int .i64 3)) w fun t_86 w =>
      gate (some (t_86, true)) (fun K => K s_p0 w) w fun t_87 w =>
      gate (some (t_86, true)) (fun K => pvv prog (Instr.index 9 t_87 (.int .i64 1)) w K) w fun t_88 w =>
      gate (some (t_86, true)) (fun K => Calls prog 77 #[t_88] w (Ret K)) w fun t_89 w =>
      gate (some (t_86, true)) (fun K => pvv prog (oEq .eql 5 (.tmp 47) (.const (.int .u8 98)) t_89 (.int .u8 98)) w K) w fun t_90 w =>
      pv prog (oPick t_86 t_90 (.bool false)) w fun t_91 w =>
      cd t_91 (
        pvv prog (Instr.sliceAt 9 s_p0 (some (.int .i64 2)) none none) w fun t_92 w =>
        k_77 [t_92, (.int .i64 2)] w) <|
      pv prog (oBi .len #[9] 3 #[false] #[s_p0]) w fun t_93 w =>
      pvv prog (binOp .geq 3 t_93 (.int .i64 3)) w fun t_94 w =>
      gate (some (t_94, true)) (fun K => K s_p0 w) w fun t_95 w =>
      gate (some (t_94, true)) (fun K => pvv prog (Instr.index 9 t_95 (.int .i64 1)) w K) w fun t_96 w =>
      gate (some (t_94, true)) (fun K => Calls prog 77 #[t_96] w (Ret K)) w fun t_97 w =>
      gate (some (t_94, true)) (fun K => pvv prog (oEq .eql 5 (.tmp 59) (.const (.int .u8 111)) t_97 (.int .u8 111)) w K) w fun t_98 w =>
      pv prog (oPick t_94 t_98 (.bool false)) w fun t_99 w =>
      cd t_99 (
        pvv prog (Instr.sliceAt 9 s_p0 (some (.int .i64 2)) none none) w fun t_100 w =>
        k_77 [t_100, (.int .i64 8)] w) <|
      pv prog (oBi .len #[9] 3 #[false] #[s_p0]) w fun t_101 w =>
      pvv prog (binOp .geq 3 t_101 (.int .i64 3)) w fun t_102 w =>
      gate (some (t_102, true)) (fun K => K s_p0 w) w fun t_103 w =>
      gate (some (t_102, true)) (fun K => pvv prog (Instr.index 9 t_103 (.int .i64 1)) w K) w fun t_104 w =>
      gate (some (t_102, true)) (fun K => Calls prog 77 #[t_104] w (Ret K)) w fun t_105 w =>
      gate (some (t_102, true)) (fun K => pvv prog (oEq .eql 5 (.tmp 71) (.const (.int .u8 120)) t_105 (.int .u8 120)) w K) w fun t_106 w =>
      pv prog (oPick t_102 t_106 (.bool false)) w fun t_107 w =>
      cd t_107 (
        pvv prog (Instr.sliceAt 9 s_p0 (some (.int .i64 2)) none none) w fun t_108 w =>
        k_77 [t_108, (.int .i64 16)] w) <|
      pvv prog (Instr.sliceAt 9 s_p0 (some (.int .i64 1)) none none) w fun t_109 w =>
      k_77 [t_109, (.int .i64 8)] w) <|
    k_77 [s_p0, (.int .i64 10)] w) <|
  pvv prog (Instr.makeInterface 123 (.int .i64 3)) w fun t_110 w =>
  K (.tuple #[(.int .u64 0), t_110]) w
theorem B66_eq (s_p0 base_p1 bitSize_p2 : Value) (w : World) (K : Value → World → Prop) : denFn prog Tryz.f66 T66 [s_p0, base_p1, bitSize_p2] w K = B66 s_p0 base_p1 bitSize_p2 w K := by kernel_rfl
theorem c66 {s_p0 base_p1 bitSize_p2 : Value} {w : World} {K : Value → World → Prop} (h : B66 s_p0 base_p1 bitSize_p2 w K) : Calls prog 66 #[s_p0, base_p1, bitSize_p2] w (Ret K) :=
  denFn_calls Tryz.func66 T66_ok (Eq.mpr (B66_eq s_p0 base_p1 bitSize_p2 w K) h)

-- 86 internal/strconv.formatBits
def T86 : Ann := (.seq .none (.meet 1073217536 [] (.seq .none (.seq .none .none)) (.seq .none (.seq .none (.meet 7516192770 [1] (.seq .none (.seq .none .none)) (.meet 618970019642690128860143618 [13] (.seq .none (.seq (.seq .none (.seq .none (.seq .none (.seq (.block (.loop 288212783965675522 [1, 13] (.seq (.seq .none (.seq .none .none)) (.block (.seq .none (.seq .none .none)))))) (.seq .none .none))))) (.seq .none (.seq (.block (.loop 9671332769940738559713282 [1, 13] (.seq (.seq .none (.seq .none .none)) (.block (.seq .none (.seq .none (.seq .none .none))))))) (.seq .none .none))))) (.meet 19188070608923394260936433664 [13] (.seq .none (.seq (.seq .none .none) .none)) (.seq (.seq .none (.seq (.seq .none .none) .none)) (.seq .none .none)))))))))
theorem T86_ok : chkFn prog Tryz.f86 T86 = true := by kernel_rfl
def B86 (dst_p0 u_p1 base_p2 neg_p3 append__p4 : Value) (w : World) (K : Value → World → Prop) : Prop :=
  jn (fun σ w => fin σ <|
    efv prog (Instr.alloc 143 true (.tuple #[])) w fun a_0 w =>
    jn (fun σ w => pop σ fun u_1 σ => fin σ <|
      jn (fun σ w => pop σ fun i_2 σ => fin σ <|
        jn (fun σ w => pop σ fun i_3 σ => fin σ <|
          cd append__p4 (
            pvv prog (Instr.sliceAt 143 a_0 (some i_3) none none) w fun t_4 w =>
            ef prog (oBi .append #[74, 74] 74 #[false, false] #[dst_p0, t_4]) w fun t_5 w =>
            K (.tuple #[t_5, (.string ⟨#[]⟩)]) w) <|
          pvv prog (Instr.sliceAt 143 a_0 (some i_3) none none) w fun t_6 w =>
          efv prog (convert 74 9 t_6) w fun t_7 w =>
          K (.tuple #[(.slice none 0 0), t_7]) w) fun k_8 =>
        cd neg_p3 (
          pvv prog (binOp .sub 3 i_2 (.int .i64 1)) w fun t_9 w =>
          pvv prog (Instr.indexAt 143 a_0 t_9) w fun t_10 w =>
          efu prog (Instr.storeAt 5 t_10 (.int .u8 45)) w fun u_11 w =>
          k_8 [t_9] w) <|
        k_8 [i_2] w) fun k_12 =>
      Calls prog 97 #[base_p2] w (Ret fun t_13 w =>
      cd t_13 (
        pvv prog (convert 3 103 base_p2) w fun t_14 w =>
        Calls prog 98 #[t_14] w (Ret fun t_15 w =>
        pvv prog (convert 3 103 t_15) w fun t_16 w =>
        pvv prog (convert 3 94 base_p2) w fun t_17 w =>
        pvv prog (convert 3 103 base_p2) w fun t_18 w =>
        pvv prog (binOp .sub 103 t_18 (.int .u64 1)) w fun t_19 w =>
        lp (fun σ w again_22 => pop σ fun u_20 σ => pop σ fun i_21 σ => fin σ <|
          pvv prog (binOp .geq 94 u_20 t_17) w fun t_23 w =>
          cd t_23 (
            pvv prog (binOp .sub 3 i_21 (.int .i64 1)) w fun t_24 w =>
            pvv prog (binOp .and 103 u_20 t_19) w fun t_25 w =>
            pvv prog (Instr.index 9 (.string ⟨#[48, 49, 50, 51, 52, 53, 54, 55, 56, 57, 97, 98, 99, 100, 101, 102, 103, 104, 105, 106, 107, 108, 109, 110, 111, 112, 113, 114, 115, 116, 117, 118, 119, 120, 121, 122]⟩) t_25) w fun t_26 w =>
            pvv prog (Instr.indexAt 143 a_0 t_24) w fun t_27 w =>
            efu prog (Instr.storeAt 5 t_27 t_26) w fun u_28 w =>
            pvv prog (binOp .shr 94 u_20 t_16) w fun t_29 w =>
            again_22 [t_29, t_24] w) <|
          pvv prog (binOp .sub 3 i_21 (.int .i64 1)) w fun t_30 w =>
          pvv prog (Instr.index 9 (.string ⟨#[48, 49, 50, 51, 52, 53, 54, 55, 56, 57, 97, 98, 99, 100, 101, 102, 103, 104, 105, 106, 107, 108, 109, 110, 111, 112, 113, 114, 115, 116, 117, 118, 119, 120, 121, 122]⟩) u_20) w fun t_31 w =>
          pvv prog (Instr.indexAt 143 a_0 t_30) w fun t_32 w =>
          efu prog (Instr.storeAt 5 t_32 t_31) w fun u_33 w =>
          k_12 [t_30] w) [u_1, (.int .i64 65)] w)) <|
      pvv prog (convert 3 94 base_p2) w fun t_34 w =>
      lp (fun σ w again_37 => pop σ fun u_35 σ => pop σ fun i_36 σ => fin σ <|
        pvv prog (binOp .geq 94 u_35 t_34) w fun t_38 w =>
        cd t_38 (
          pvv prog (binOp .sub 3 i_36 (.int .i64 1)) w fun t_39 w =>
          pvv prog (binOp .quo 94 u_35 t_34) w fun t_40 w =>
          pvv prog (binOp .mul 94 t_40 t_34) w fun t_41 w =>
          pvv prog (binOp .sub 94 u_35 t_41) w fun t_42 w =>
          pvv prog (Instr.index 9 (.string ⟨#[48, 49, 50, 51, 52, 53, 54, 55, 56, 57, 97, 98, 99, 100, 101, 102, 103, 104, 105, 106, 107, 108, 109, 110, 111, 112, 113, 114, 115, 116, 117, 118, 119, 120, 121, 122]⟩) t_42) w fun t_43 w =>
          pvv prog (Instr.indexAt 143 a_0 t_39) w fun t_44 w =>
          efu prog (Instr.storeAt 5 t_44 t_43) w fun u_45 w =>
          again_37 [t_40, t_39] w) <|
        pvv prog (binOp .sub 3 i_36 (.int .i64 1)) w fun t_46 w =>
        pvv prog (Instr.index 9 (.string ⟨#[48, 49, 50, 51, 52, 53, 54, 55, 56, 57, 97, 98, 99, 100, 101, 102, 103, 104, 105, 106, 107, 108, 109, 110, 111, 112, 113, 114, 115, 116, 117, 118, 119, 120, 121, 122]⟩) u_35) w fun t_47 w =>
        pvv prog (Instr.indexAt 143 a_0 t_46) w fun t_48 w =>
        efu prog (Instr.storeAt 5 t_48 t_47) w fun u_49 w =>
        k_12 [t_46] w) [u_1, (.int .i64 65)] w)) fun k_50 =>
    cd neg_p3 (
      pvv prog (Op.unary .neg u_p1) w fun t_51 w =>
      k_50 [t_51] w) <|
    k_50 [u_p1] w) fun k_52 =>
  pvv prog (binOp .lss 3 base_p2 (.int .i64 2)) w fun t_53 w =>
  gate (some (t_53, false)) (fun K => K base_p2 w) w fun t_54 w =>
  gate (some (t_53, false)) (fun K => pvv prog (oEq .eql 3 (.tmp 22) (.const (.int .i64 10)) t_54 (.int .i64 10)) w K) w fun t_55 w =>
  pv prog (oPick t_53 (.bool true) t_55) w fun t_56 w =>
  gate (some (t_56, false)) (fun K => K base_p2 w) w fun t_57 w =>
  gate (some (t_56, false)) (fun K => pvv prog (binOp .gtr 3 t_57 (.int .i64 36)) w K) w fun t_58 w =>
  pv prog (oPick t_56 (.bool true) t_58) w fun t_59 w =>
  cd t_59 (
    pvv prog (Instr.makeInterface 9 (.string ⟨#[115, 116, 114, 99, 111, 110, 118, 58, 32, 105, 108, 108, 101, 103, 97, 108, 32, 65, 112, 112, 101, 110, 100, 73, 110, 116, 47, 70, 111, 114, 109, 97, 116, 73, 110, 116, 32, 98, 97, 115, 101]⟩)) w fun t_60 w =>
    efv prog (Instr.panic t_60) w fun u_61 w =>
    k_52 [] w) <|
  k_52 [] w
theorem B86_eq (dst_p0 u_p1 base_p2 neg_p3 append__p4 : Value) (w : World) (K : Value → World → Prop) : denFn prog Tryz.f86 T86 [dst_p0, u_p1, base_p2, neg_p3, append__p4] w K = B86 dst_p0 u_p1 base_p2 neg_p3 append__p4 w K := by kernel_rfl
theorem c86 {dst_p0 u_p1 base_p2 neg_p3 append__p4 : Value} {w : World} {K : Value → World → Prop} (h : B86 dst_p0 u_p1 base_p2 neg_p3 append__p4 w K) : Calls prog 86 #[dst_p0, u_p1, base_p2, neg_p3, append__p4] w (Ret K) :=
  denFn_calls Tryz.func86 T86_ok (Eq.mpr (B86_eq dst_p0 u_p1 base_p2 neg_p3 append__p4 w K) h)

-- 19 (*holdfast/audit.Chain).Prune
def T19 : Ann := (.seq .none (.seq (.block (.seq .none (.seq (.seq .none .none) (.seq (.draw [.op 0 .load, .op 1 .load, .op 2 .pure, .op 3 .pure, .op 4 .pure, .op 5 .load, .op 6 .pure, .op 7 .pure, .op 8 .load, .op 9 .load, .op 10 .pure, .op 11 .pure, .op 12 .pure, .op 13 .load, .op 14 .pure, .op 15 .pure, .op 16 .pure]) (.seq (.seq .none .none) .none))))) (.seq (.draw [.op 0 .load, .op 1 .load, .op 2 .pure, .op 3 .pure, .op 4 .pure, .op 5 .load, .op 6 .pure, .op 7 .pure]) (.seq (.seq .none (.block (.range .none (.block (.seq .none (.seq (.seq .none .none) .none)))))) (.seq (.draw [.op 5 .pure, .op 0 .load, .op 1 .load, .op 2 .pure, .op 3 .pure, .op 4 .load, .op 6 .pure, .op 7 .eff, .op 8 .pure, .op 9 .pure, .op 10 .eff]) (.seq .none .none))))))
theorem T19_ok : chkFn prog Tryz.f19 T19 = true := by kernel_rfl
def B19 (c_p0 n_p1 : Value) (w : World) (K : Value → World → Prop) : Prop :=
  efv prog (Instr.box 25 c_p0) w fun c_0 w =>
  efv prog (Instr.box 3 n_p1) w fun n_1 w =>
  ldv prog (Instr.loadAt 25 c_0) w fun t_2 w =>
  pvv prog (oEq .eql 25 (.tmp 9) (.const (.pointer none)) t_2 (.pointer none)) w fun t_3 w =>
  cd t_3 (
    K (.tuple #[(.int .i64 0), (.int .i64 1)]) w) <|
  dr w fun w =>
  bindS (vN (Instr.loadAt 3 n_1)) fun m_5 => ldv prog (Instr.loadAt 3 n_1) w fun t_4 w =>
  bindS (vN (Instr.loadAt 25 c_0)) fun m_7 => ldv prog (Instr.loadAt 25 c_0) w fun t_6 w =>
  pv prog (oNil t_6) w fun t_8 w =>
  pvv prog (Instr.fieldAt 52 t_8 1) w fun t_9 w =>
  pvv prog (Instr.fieldAt 50 t_9 0) w fun t_10 w =>
  bindS (vN (Instr.loadAt 3 t_10)) fun m_12 => ldv prog (Instr.loadAt 3 t_10) w fun t_11 w =>
  pvv prog (binOp .gtr 3 t_4 t_11) w fun t_13 w =>
  bindS (vN (Instr.loadAt 3 n_1)) fun m_15 => gate (some (t_13, false)) (fun K => ldv prog (Instr.loadAt 3 n_1) w K) w fun t_14 w =>
  bindS (vN (Instr.loadAt 25 c_0)) fun m_17 => gate (some (t_13, false)) (fun K => ldv prog (Instr.loadAt 25 c_0) w K) w fun t_16 w =>
  gate (some (t_13, false)) (fun K => pv prog (oNil t_16) w K) w fun t_18 w =>
  gate (some (t_13, false)) (fun K => pvv prog (Instr.fieldAt 52 t_18 0) w K) w fun t_19 w =>
  gate (some (t_13, false)) (fun K => pvv prog (Instr.fieldAt 50 t_19 0) w K) w fun t_20 w =>
  bindS (vN (Instr.loadAt 3 t_20)) fun m_22 => gate (some (t_13, false)) (fun K => ldv prog (Instr.loadAt 3 t_20) w K) w fun t_21 w =>
  gate (some (t_13, false)) (fun K => pvv prog (binOp .lss 3 t_14 t_21) w K) w fun t_23 w =>
  pv prog (oPick t_13 (.bool true) t_23) w fun t_24 w =>
  cd t_24 (
    K (.tuple #[(.int .i64 0), (.int .i64 2)]) w) <|
  dr w fun w =>
  bindS (vN (Instr.loadAt 3 n_1)) fun m_26 => ldv prog (Instr.loadAt 3 n_1) w fun t_25 w =>
  bindS (vN (Instr.loadAt 25 c_0)) fun m_28 => ldv prog (Instr.loadAt 25 c_0) w fun t_27 w =>
  pv prog (oNil t_27) w fun t_29 w =>
  pvv prog (Instr.fieldAt 52 t_29 0) w fun t_30 w =>
  pvv prog (Instr.fieldAt 50 t_30 0) w fun t_31 w =>
  bindS (vN (Instr.loadAt 3 t_31)) fun m_33 => ldv prog (Instr.loadAt 3 t_31) w fun t_32 w =>
  pvv prog (binOp .sub 3 t_25 t_32) w fun t_34 w =>
  ldv prog (Instr.loadAt 25 c_0) w fun t_35 w =>
  Calls prog 33 #[t_35] w (Ret fun t_36 w =>
  rng prog 1 t_36 (fun σ w bg_38 ex_39 => pop σ fun t_37 σ => fin σ <|
    efv prog (Instr.alloc 50 true (.tuple #[])) w fun p_40 w =>
    efu prog (Instr.storeAt 50 p_40 t_37) w fun u_41 w =>
    bg_38 w fun w =>
    pvv prog (Instr.fieldAt 50 p_40 0) w fun t_42 w =>
    ldv prog (Instr.loadAt 3 t_42) w fun t_43 w =>
    ldv prog (Instr.loadAt 3 n_1) w fun t_44 w =>
    pvv prog (oEq .eql 3 (.tmp 39) (.tmp 40) t_43 t_44) w fun t_45 w =>
    cd t_45 (
      ldv prog (Instr.loadAt 25 c_0) w fun t_46 w =>
      ldv prog (Instr.loadAt 50 p_40) w fun t_47 w =>
      pv prog (oNil t_46) w fun t_48 w =>
      pvv prog (Instr.fieldAt 52 t_48 0) w fun t_49 w =>
      efu prog (Instr.storeAt 50 t_49 t_47) w fun u_50 w =>
      ex_39 (.exit 1) w) <|
    ex_39 .normal w) w fun p_52 D_51 w =>
  jump (
    dr w fun w =>
    bindS (vN (Instr.loadAt 25 c_0)) fun m_54 => ldv prog (Instr.loadAt 25 c_0) w fun t_53 w =>
    bindS (vN (Instr.loadAt 25 c_0)) fun m_56 => ldv prog (Instr.loadAt 25 c_0) w fun t_55 w =>
    pv prog (oNil t_55) w fun t_57 w =>
    pvv prog (Instr.fieldAt 52 t_57 4) w fun t_58 w =>
    bindS (vN (Instr.loadAt 41 t_58)) fun m_60 => ldv prog (Instr.loadAt 41 t_58) w fun t_59 w =>
    pvv prog (Instr.sliceAt 41 t_59 (some t_34) none none) w fun t_61 w =>
    Calls prog 37 #[t_61] w (Ret fun t_62 w => stay prog none m_60 t_59 w <| stay prog none m_56 t_55 w <| stay prog none m_54 t_53 w <| 
    pv prog (oNil t_53) w fun t_63 w =>
    pvv prog (Instr.fieldAt 52 t_63 4) w fun t_64 w =>
    efu prog (Instr.storeAt 41 t_64 t_62) w fun u_65 w =>
    und [D_51] w fun w => K (.tuple #[t_34, (.int .i64 0)]) w)) (
    und [D_51] w fun w => K (.tuple #[(.int .i64 0), (.int .i64 0)]) w) [(1, dr w fun w =>
    bindS (vN (Instr.loadAt 25 c_0)) fun m_69 => ldv prog (Instr.loadAt 25 c_0) w fun t_68 w =>
    bindS (vN (Instr.loadAt 25 c_0)) fun m_71 => ldv prog (Instr.loadAt 25 c_0) w fun t_70 w =>
    pv prog (oNil t_70) w fun t_72 w =>
    pvv prog (Instr.fieldAt 52 t_72 4) w fun t_73 w =>
    bindS (vN (Instr.loadAt 41 t_73)) fun m_75 => ldv prog (Instr.loadAt 41 t_73) w fun t_74 w =>
    pvv prog (Instr.sliceAt 41 t_74 (some t_34) none none) w fun t_76 w =>
    Calls prog 37 #[t_76] w (Ret fun t_77 w => stay prog none m_75 t_74 w <| stay prog none m_71 t_70 w <| stay prog none m_69 t_68 w <| 
    pv prog (oNil t_68) w fun t_78 w =>
    pvv prog (Instr.fieldAt 52 t_78 4) w fun t_79 w =>
    efu prog (Instr.storeAt 41 t_79 t_77) w fun u_80 w =>
    und [D_51] w fun w => K (.tuple #[t_34, (.int .i64 0)]) w))] p_52)
theorem B19_eq (c_p0 n_p1 : Value) (w : World) (K : Value → World → Prop) : denFn prog Tryz.f19 T19 [c_p0, n_p1] w K = B19 c_p0 n_p1 w K := by kernel_rfl
theorem c19 {c_p0 n_p1 : Value} {w : World} {K : Value → World → Prop} (h : B19 c_p0 n_p1 w K) : Calls prog 19 #[c_p0, n_p1] w (Ret K) :=
  denFn_calls Tryz.func19 T19_ok (Eq.mpr (B19_eq c_p0 n_p1 w K) h)

-- 136 gosem.cut.vars
def T136 : Ann := (.seq .none (.seq .none (.seq .none (.seq .none (.seq .none .none)))))
theorem T136_ok : chkFn prog Tryz.f136 T136 = true := by kernel_rfl
def B136 (w : World) (K : Value → World → Prop) : Prop :=
  pvv prog (Instr.build 43 #[(0, (.int .u8 0)), (1, (.int .u8 1)), (2, (.int .u8 28)), (3, (.int .u8 2)), (4, (.int .u8 29)), (5, (.int .u8 14)), (6, (.int .u8 24)), (7, (.int .u8 3)), (8, (.int .u8 30)), (9, (.int .u8 22)), (10, (.int .u8 20)), (11, (.int .u8 15)), (12, (.int .u8 25)), (13, (.int .u8 17)), (14, (.int .u8 4)), (15, (.int .u8 8)), (16, (.int .u8 31)), (17, (.int .u8 27)), (18, (.int .u8 13)), (19, (.int .u8 23)), (20, (.int .u8 21)), (21, (.int .u8 19)), (22, (.int .u8 16)), (23, (.int .u8 7)), (24, (.int .u8 26)), (25, (.int .u8 12)), (26, (.int .u8 18)), (27, (.int .u8 6)), (28, (.int .u8 11)), (29, (.int .u8 5)), (30, (.int .u8 10)), (31, (.int .u8 9))]) w fun t_0 w =>
  efu prog (Instr.storeAt 43 (.pointer (some ⟨6, 0, none⟩)) t_0) w fun u_1 w =>
  pvv prog (Instr.build 158 #[(0, (.int .u8 0)), (1, (.int .u8 1)), (2, (.int .u8 56)), (3, (.int .u8 2)), (4, (.int .u8 57)), (5, (.int .u8 49)), (6, (.int .u8 28)), (7, (.int .u8 3)), (8, (.int .u8 61)), (9, (.int .u8 58)), (10, (.int .u8 42)), (11, (.int .u8 50)), (12, (.int .u8 38)), (13, (.int .u8 29)), (14, (.int .u8 17)), (15, (.int .u8 4)), (16, (.int .u8 62)), (17, (.int .u8 47)), (18, (.int .u8 59)), (19, (.int .u8 36)), (20, (.int .u8 45)), (21, (.int .u8 43)), (22, (.int .u8 51)), (23, (.int .u8 22)), (24, (.int .u8 53)), (25, (.int .u8 39)), (26, (.int .u8 33)), (27, (.int .u8 30)), (28, (.int .u8 24)), (29, (.int .u8 18)), (30, (.int .u8 12)), (31, (.int .u8 5)), (32, (.int .u8 63)), (33, (.int .u8 55)), (34, (.int .u8 48)), (35, (.int .u8 27)), (36, (.int .u8 60)), (37, (.int .u8 41)), (38, (.int .u8 37)), (39, (.int .u8 16)), (40, (.int .u8 46)), (41, (.int .u8 35)), (42, (.int .u8 44)), (43, (.int .u8 21)), (44, (.int .u8 52)), (45, (.int .u8 32)), (46, (.int .u8 23)), (47, (.int .u8 11)), (48, (.int .u8 54)), (49, (.int .u8 26)), (50, (.int .u8 40)), (51, (.int .u8 15)), (52, (.int .u8 34)), (53, (.int .u8 20)), (54, (.int .u8 31)), (55, (.int .u8 10)), (56, (.int .u8 25)), (57, (.int .u8 14)), (58, (.int .u8 19)), (59, (.int .u8 9)), (60, (.int .u8 13)), (61, (.int .u8 8)), (62, (.int .u8 7)), (63, (.int .u8 6))]) w fun t_2 w =>
  efu prog (Instr.storeAt 158 (.pointer (some ⟨7, 0, none⟩)) t_2) w fun u_3 w =>
  pvv prog (Instr.build 142 #[(0, (.int .u64 1)), (1, (.int .u64 10)), (2, (.int .u64 100)), (3, (.int .u64 1000)), (4, (.int .u64 10000)), (5, (.int .u64 100000)), (6, (.int .u64 1000000)), (7, (.int .u64 10000000)), (8, (.int .u64 100000000)), (9, (.int .u64 1000000000)), (10, (.int .u64 10000000000)), (11, (.int .u64 100000000000)), (12, (.int .u64 1000000000000)), (13, (.int .u64 10000000000000)), (14, (.int .u64 100000000000000)), (15, (.int .u64 1000000000000000)), (16, (.int .u64 10000000000000000)), (17, (.int .u64 100000000000000000)), (18, (.int .u64 1000000000000000000)), (19, (.int .u64 10000000000000000000))]) w fun t_4 w =>
  efu prog (Instr.storeAt 142 (.pointer (some ⟨2, 0, none⟩)) t_4) w fun u_5 w =>
  pvv prog (Instr.build 148 #[(0, (.int .u8 128)), (1, (.int .u8 191))]) w fun t_6 w =>
  pvv prog (Instr.build 148 #[(0, (.int .u8 160)), (1, (.int .u8 191))]) w fun t_7 w =>
  pvv prog (Instr.build 148 #[(0, (.int .u8 128)), (1, (.int .u8 159))]) w fun t_8 w =>
  pvv prog (Instr.build 148 #[(0, (.int .u8 144)), (1, (.int .u8 191))]) w fun t_9 w =>
  pvv prog (Instr.build 148 #[(0, (.int .u8 128)), (1, (.int .u8 143))]) w fun t_10 w =>
  pvv prog (Instr.build 149 #[(0, t_6), (1, t_7), (2, t_8), (3, t_9), (4, t_10)]) w fun t_11 w =>
  efu prog (Instr.storeAt 149 (.pointer (some ⟨4, 0, none⟩)) t_11) w fun u_12 w =>
  Calls prog 92 #[(.string ⟨#[118, 97, 108, 117, 101, 32, 111, 117, 116, 32, 111, 102, 32, 114, 97, 110, 103, 101]⟩)] w (Ret fun t_13 w =>
  efu prog (Instr.storeAt 96 (.pointer (some ⟨1, 0, none⟩)) t_13) w fun u_14 w =>
  Calls prog 92 #[(.string ⟨#[105, 110, 118, 97, 108, 105, 100, 32, 115, 121, 110, 116, 97, 120]⟩)] w (Ret fun t_15 w =>
  efu prog (Instr.storeAt 96 (.pointer (some ⟨0, 0, none⟩)) t_15) w fun u_16 w =>
  K (.tuple #[]) w))
theorem B136_eq (w : World) (K : Value → World → Prop) : denFn prog Tryz.f136 T136 [] w K = B136  w K := by kernel_rfl
theorem c136 {w : World} {K : Value → World → Prop} (h : B136  w K) : Calls prog 136 #[] w (Ret K) :=
  denFn_calls Tryz.func136 T136_ok (Eq.mpr (B136_eq  w K) h)

-- 15 (*holdfast/holdfastref14.Chain).Verify
def T15 : Ann := (.seq .none (.seq (.block (.seq .none (.seq (.seq .none .none) (.seq (.draw [.op 0 .pure, .op 1 .pure, .op 2 .pure, .op 3 .pure, .op 7 .pure, .op 8 .pure, .op 9 .pure, .op 4 .load, .op 5 .pure, .op 10 .load, .op 6 .eff, .op 11 .pure, .op 12 .pure]) (.seq (.seq .none .none) (.seq (.draw [.op 0 .pure, .op 1 .pure, .op 2 .pure, .op 4 .pure, .op 5 .pure, .op 6 .pure, .op 3 .load, .op 7 .load, .op 8 .pure, .op 9 .pure, .op 10 .pure, .op 11 .pure, .op 12 .pure, .op 13 .pure, .op 15 .pure, .op 16 .pure, .op 17 .pure, .op 21 .pure, .op 22 .pure, .op 23 .pure, .op 14 .load, .op 18 .load, .op 19 .pure, .op 24 .load, .op 20 .eff, .op 25 .pure, .op 26 .pure, .op 27 .pure]) (.seq (.seq .none .none) .none))))))) (.seq .none .none)))
theorem T15_ok : chkFn prog Tryz.f15 T15 = true := by kernel_rfl
def B15 (c_p0 : Value) (w : World) (K : Value → World → Prop) : Prop :=
  pvv prog (oEq .eql 27 (.tmp 4) (.const (.pointer none)) c_p0 (.pointer none)) w fun t_0 w =>
  cd t_0 (
    K (.int .i64 1) w) <|
  dr w fun w =>
  pv prog (oNil c_p0) w fun t_1 w =>
  pvv prog (Instr.fieldAt 54 t_1 6) w fun t_2 w =>
  pv prog (oNil c_p0) w fun t_3 w =>
  pvv prog (Instr.fieldAt 54 t_3 5) w fun t_4 w =>
  bindS (vN (Instr.loadAt 41 t_2)) fun m_6 => ldv prog (Instr.loadAt 41 t_2) w fun t_5 w =>
  pv prog (oBi .len #[41] 3 #[false] #[t_5]) w fun t_7 w =>
  bindS (vN (Instr.loadAt 44 t_4)) fun m_9 => ldv prog (Instr.loadAt 44 t_4) w fun t_8 w =>
  Calls prog 12 #[c_p0, t_7] w (Ret fun t_10 w => stay prog none m_9 t_8 w <| stay prog none m_6 t_5 w <| 
  pvv prog (oEq .neq 44 (.tmp 13) (.tmp 17) t_10 t_8) w fun t_11 w =>
  cd t_11 (
    K (.int .i64 15) w) <|
  dr w fun w =>
  pv prog (oNil c_p0) w fun t_12 w =>
  pvv prog (Instr.fieldAt 54 t_12 1) w fun t_13 w =>
  pv prog (oNil c_p0) w fun t_14 w =>
  pvv prog (Instr.fieldAt 54 t_14 0) w fun t_15 w =>
  bindS (vN (Instr.loadAt 3 t_13)) fun m_17 => ldv prog (Instr.loadAt 3 t_13) w fun t_16 w =>
  bindS (vN (Instr.loadAt 3 t_15)) fun m_19 => ldv prog (Instr.loadAt 3 t_15) w fun t_18 w =>
  pvv prog (binOp .geq 3 t_16 t_18) w fun t_20 w =>
  gate (some (t_20, true)) (fun K => K c_p0 w) w fun t_21 w =>
  gate (some (t_20, true)) (fun K => K c_p0 w) w fun t_22 w =>
  gate (some (t_20, true)) (fun K => pv prog (oNil t_22) w K) w fun t_23 w =>
  gate (some (t_20, true)) (fun K => pvv prog (Instr.fieldAt 54 t_23 1) w K) w fun t_24 w =>
  gate (some (t_20, true)) (fun K => K c_p0 w) w fun t_25 w =>
  gate (some (t_20, true)) (fun K => pv prog (oNil t_25) w K) w fun t_26 w =>
  gate (some (t_20, true)) (fun K => pvv prog (Instr.fieldAt 54 t_26 0) w K) w fun t_27 w =>
  gate (some (t_20, true)) (fun K => K c_p0 w) w fun t_28 w =>
  gate (some (t_20, true)) (fun K => pv prog (oNil t_28) w K) w fun t_29 w =>
  gate (some (t_20, true)) (fun K => pvv prog (Instr.fieldAt 54 t_29 4) w K) w fun t_30 w =>
  bindS (vN (Instr.loadAt 3 t_24)) fun m_32 => gate (some (t_20, true)) (fun K => ldv prog (Instr.loadAt 3 t_24) w K) w fun t_31 w =>
  bindS (vN (Instr.loadAt 3 t_27)) fun m_34 => gate (some (t_20, true)) (fun K => ldv prog (Instr.loadAt 3 t_27) w K) w fun t_33 w =>
  gate (some (t_20, true)) (fun K => pvv prog (binOp .sub 3 t_31 t_33) w K) w fun t_35 w =>
  bindS (vN (Instr.loadAt 44 t_30)) fun m_37 => gate (some (t_20, true)) (fun K => ldv prog (Instr.loadAt 44 t_30) w K) w fun t_36 w =>
  gate (some (t_20, true)) (fun K => Calls prog 12 #[t_21, t_35] w (Ret fun s_41 w => stay prog (some (t_20, true)) m_37 t_36 w <| stay prog (some (t_20, true)) m_34 t_33 w <| stay prog (some (t_20, true)) m_32 t_31 w <| stay prog none m_19 t_18 w <| stay prog none m_17 t_16 w <| K s_41 w)) w fun t_38 w =>
  gate (some (t_20, true)) (fun K => pvv prog (oEq .neq 44 (.tmp 40) (.tmp 44) t_38 t_36) w K) w fun t_39 w =>
  pv prog (oPick t_20 t_39 (.bool false)) w fun t_40 w =>
  cd t_40 (
    K (.int .i64 15) w) <|
  K (.int .i64 0) w)
theorem B15_eq (c_p0 : Value) (w : World) (K : Value → World → Prop) : denFn prog Tryz.f15 T15 [c_p0] w K = B15 c_p0 w K := by kernel_rfl
theorem c15 {c_p0 : Value} {w : World} {K : Value → World → Prop} (h : B15 c_p0 w K) : Calls prog 15 #[c_p0] w (Ret K) :=
  denFn_calls Tryz.func15 T15_ok (Eq.mpr (B15_eq c_p0 w K) h)

-- 45 holdfast/holdfastref02.Row
def T45 : Ann := (.seq .none (.seq (.seq .none (.seq (.seq .none .none) .none)) (.seq .none (.seq (.seq .none (.block (.loop 1099511619644 [4, 5] (.seq (.seq .none (.seq .none .none)) (.seq (.block (.seq (.seq .none (.seq (.seq .none .none) .none)) (.seq .none .none))) .none))))) (.seq (.seq .none (.seq (.seq .none .none) .none)) (.seq .none .none))))))
theorem T45_ok : chkFn prog Tryz.f45 T45 = true := by kernel_rfl
def B45 (columns_p0 : Value) (w : World) (K : Value → World → Prop) : Prop :=
  pv prog (oBi .len #[33] 3 #[false] #[columns_p0]) w fun t_0 w =>
  pvv prog (binOp .gtr 3 t_0 (.int .i64 8)) w fun t_1 w =>
  cd t_1 (
    K (.tuple #[(.slice none 0 0), (.int .i64 2)]) w) <|
  pv prog (oBi .len #[33] 3 #[false] #[columns_p0]) w fun t_2 w =>
  pvv prog (convert 3 5 t_2) w fun t_3 w =>
  efv prog (Instr.buildSlice 74 1 #[(0, t_3)]) w fun t_4 w =>
  lp (fun σ w again_7 => pop σ fun out_5 σ => pop σ fun i_6 σ => fin σ <|
    pv prog (oBi .len #[33] 3 #[false] #[columns_p0]) w fun t_8 w =>
    pvv prog (binOp .lss 3 i_6 t_8) w fun t_9 w =>
    cd t_9 (
      pvv prog (Instr.indexAt 33 columns_p0 i_6) w fun t_10 w =>
      ldv prog (Instr.loadAt 9 t_10) w fun t_11 w =>
      pv prog (oBi .len #[9] 3 #[false] #[t_11]) w fun t_12 w =>
      pvv prog (binOp .gtr 3 t_12 (.int .i64 70)) w fun t_13 w =>
      cd t_13 (
        K (.tuple #[(.slice none 0 0), (.int .i64 6)]) w) <|
      pvv prog (Instr.indexAt 33 columns_p0 i_6) w fun t_14 w =>
      ldv prog (Instr.loadAt 9 t_14) w fun t_15 w =>
      pv prog (oBi .len #[9] 3 #[false] #[t_15]) w fun t_16 w =>
      pvv prog (convert 3 5 t_16) w fun t_17 w =>
      efv prog (Instr.buildSlice 74 1 #[(0, t_17)]) w fun t_18 w =>
      ef prog (oBi .append #[74, 74] 74 #[false, false] #[out_5, t_18]) w fun t_19 w =>
      pvv prog (Instr.indexAt 33 columns_p0 i_6) w fun t_20 w =>
      ldv prog (Instr.loadAt 9 t_20) w fun t_21 w =>
      ef prog (oBi .append #[74, 9] 74 #[false, false] #[t_19, t_21]) w fun t_22 w =>
      pvv prog (binOp .add 3 i_6 (.int .i64 1)) w fun t_23 w =>
      again_7 [t_22, t_23] w) <|
    pv prog (oBi .len #[74] 3 #[false] #[out_5]) w fun t_24 w =>
    pvv prog (binOp .gtr 3 t_24 (.int .i64 72)) w fun t_25 w =>
    cd t_25 (
      K (.tuple #[(.slice none 0 0), (.int .i64 6)]) w) <|
    K (.tuple #[out_5, (.int .i64 0)]) w) [t_4, (.int .i64 0)] w
theorem B45_eq (columns_p0 : Value) (w : World) (K : Value → World → Prop) : denFn prog Tryz.f45 T45 [columns_p0] w K = B45 columns_p0 w K := by kernel_rfl
theorem c45 {columns_p0 : Value} {w : World} {K : Value → World → Prop} (h : B45 columns_p0 w K) : Calls prog 45 #[columns_p0] w (Ret K) :=
  denFn_calls Tryz.func45 T45_ok (Eq.mpr (B45_eq columns_p0 w K) h)

-- 51 strings.Trim
def T51 : Ann := (.seq .none (.seq (.seq .none (.seq (.seq .none .none) .none)) (.seq (.seq .none (.seq (.seq (.draw [.op 0 .pure, .op 1 .pure, .op 2 .pure, .op 4 .pure, .op 5 .pure, .op 3 .eff, .op 6 .eff, .op 7 .pure]) .none) .none)) (.seq (.seq .none (.seq .none (.seq (.seq .none .none) .none))) (.seq .none .none)))))
theorem T51_ok : chkFn prog Tryz.f51 T51 = true := by kernel_rfl
def B51 (s_p0 cutset_p1 : Value) (w : World) (K : Value → World → Prop) : Prop :=
  pvv prog (oEq .eql 9 (.tmp 7) (.const (.string ⟨#[]⟩)) s_p0 (.string ⟨#[]⟩)) w fun t_0 w =>
  gate (some (t_0, false)) (fun K => K cutset_p1 w) w fun t_1 w =>
  gate (some (t_0, false)) (fun K => pvv prog (oEq .eql 9 (.tmp 10) (.const (.string ⟨#[]⟩)) t_1 (.string ⟨#[]⟩)) w K) w fun t_2 w =>
  pv prog (oPick t_0 (.bool true) t_2) w fun t_3 w =>
  cd t_3 (
    K s_p0 w) <|
  pv prog (oBi .len #[9] 3 #[false] #[cutset_p1]) w fun t_4 w =>
  pvv prog (oEq .eql 3 (.tmp 15) (.const (.int .i64 1)) t_4 (.int .i64 1)) w fun t_5 w =>
  gate (some (t_5, true)) (fun K => K cutset_p1 w) w fun t_6 w =>
  gate (some (t_5, true)) (fun K => pvv prog (Instr.index 9 t_6 (.int .i64 0)) w K) w fun t_7 w =>
  gate (some (t_5, true)) (fun K => pvv prog (binOp .lss 5 t_7 (.int .u8 128)) w K) w fun t_8 w =>
  pv prog (oPick t_5 t_8 (.bool false)) w fun t_9 w =>
  cd t_9 (
    dr w fun w =>
    pvv prog (Instr.index 9 cutset_p1 (.int .i64 0)) w fun t_10 w =>
    pvv prog (Instr.index 9 cutset_p1 (.int .i64 0)) w fun t_11 w =>
    Calls prog 60 #[s_p0, t_10] w (Ret fun t_12 w =>
    Calls prog 59 #[t_12, t_11] w (Ret fun t_13 w =>
    K t_13 w))) <|
  Calls prog 61 #[cutset_p1] w (Ret fun t_16 w =>
  pvv prog (Instr.extract t_16 0) w fun t_17 w =>
  pvv prog (Instr.extract t_16 1) w fun t_18 w =>
  efv prog (Instr.alloc 107 true (.tuple #[])) w fun as_19 w =>
  efu prog (Instr.storeAt 107 as_19 t_17) w fun u_20 w =>
  cd t_18 (
    Calls prog 63 #[s_p0, as_19] w (Ret fun t_21 w =>
    Calls prog 62 #[t_21, as_19] w (Ret fun t_22 w =>
    K t_22 w))) <|
  Calls prog 65 #[s_p0, cutset_p1] w (Ret fun t_23 w =>
  Calls prog 64 #[t_23, cutset_p1] w (Ret fun t_24 w =>
  K t_24 w)))
theorem B51_eq (s_p0 cutset_p1 : Value) (w : World) (K : Value → World → Prop) : denFn prog Tryz.f51 T51 [s_p0, cutset_p1] w K = B51 s_p0 cutset_p1 w K := by kernel_rfl
theorem c51 {s_p0 cutset_p1 : Value} {w : World} {K : Value → World → Prop} (h : B51 s_p0 cutset_p1 w K) : Calls prog 51 #[s_p0, cutset_p1] w (Ret K) :=
  denFn_calls Tryz.func51 T51_ok (Eq.mpr (B51_eq s_p0 cutset_p1 w K) h)

-- 55 holdfast/holdfastref07.constants
def T55 : Ann := (.seq .none (.seq .none .none))
theorem T55_ok : chkFn prog Tryz.f55 T55 = true := by kernel_rfl
def B55 (w : World) (K : Value → World → Prop) : Prop :=
  efv prog (Instr.buildSlice 101 64 #[(0, (.int .u32 1116352408)), (1, (.int .u32 1899447441)), (2, (.int .u32 3049323471)), (3, (.int .u32 3921009573)), (4, (.int .u32 961987163)), (5, (.int .u32 1508970993)), (6, (.int .u32 2453635748)), (7, (.int .u32 2870763221)), (8, (.int .u32 3624381080)), (9, (.int .u32 310598401)), (10, (.int .u32 607225278)), (11, (.int .u32 1426881987)), (12, (.int .u32 1925078388)), (13, (.int .u32 2162078206)), (14, (.int .u32 2614888103)), (15, (.int .u32 3248222580)), (16, (.int .u32 3835390401)), (17, (.int .u32 4022224774)), (18, (.int .u32 264347078)), (19, (.int .u32 604807628)), (20, (.int .u32 770255983)), (21, (.int .u32 1249150122)), (22, (.int .u32 1555081692)), (23, (.int .u32 1996064986)), (24, (.int .u32 2554220882)), (25, (.int .u32 2821834349)), (26, (.int .u32 2952996808)), (27, (.int .u32 3210313671)), (28, (.int .u32 3336571891)), (29, (.int .u32 3584528711)), (30, (.int .u32 113926993)), (31, (.int .u32 338241895)), (32, (.int .u32 666307205)), (33, (.int .u32 773529912)), (34, (.int .u32 1294757372)), (35, (.int .u32 1396182291)), (36, (.int .u32 1695183700)), (37, (.int .u32 1986661051)), (38, (.int .u32 2177026350)), (39, (.int .u32 2456956037)), (40, (.int .u32 2730485921)), (41, (.int .u32 2820302411)), (42, (.int .u32 3259730800)), (43, (.int .u32 3345764771)), (44, (.int .u32 3516065817)), (45, (.int .u32 3600352804)), (46, (.int .u32 4094571909)), (47, (.int .u32 275423344)), (48, (.int .u32 430227734)), (49, (.int .u32 506948616)), (50, (.int .u32 659060556)), (51, (.int .u32 883997877)), (52, (.int .u32 958139571)), (53, (.int .u32 1322822218)), (54, (.int .u32 1537002063)), (55, (.int .u32 1747873779)), (56, (.int .u32 1955562222)), (57, (.int .u32 2024104815)), (58, (.int .u32 2227730452)), (59, (.int .u32 2361852424)), (60, (.int .u32 2428436474)), (61, (.int .u32 2756734187)), (62, (.int .u32 3204031479)), (63, (.int .u32 3329325298))]) w fun t_0 w =>
  K t_0 w
theorem B55_eq (w : World) (K : Value → World → Prop) : denFn prog Tryz.f55 T55 [] w K = B55  w K := by kernel_rfl
theorem c55 {w : World} {K : Value → World → Prop} (h : B55  w K) : Calls prog 55 #[] w (Ret K) :=
  denFn_calls Tryz.func55 T55_ok (Eq.mpr (B55_eq  w K) h)

-- 67 strconv.toError
def T67 : Ann := (.seq .none (.seq (.seq .none (.block (.seq .none (.seq (.seq .none .none) (.seq .none (.seq (.seq .none .none) (.seq .none (.seq (.seq .none .none) (.seq .none (.seq (.seq .none .none) .none)))))))))) (.seq .none .none)))
theorem T67_ok : chkFn prog Tryz.f67 T67 = true := by kernel_rfl
def B67 (fn_p0 s_p1 base_p2 bitSize_p3 err_p4 : Value) (w : World) (K : Value → World → Prop) : Prop :=
  pvv prog (Instr.makeInterface 123 (.int .i64 2)) w fun t_0 w =>
  pvv prog (oEq .eql 96 (.tmp 11) (.tmp 13) err_p4 t_0) w fun t_1 w =>
  cd t_1 (
    Calls prog 79 #[fn_p0, s_p1] w (Ret fun t_2 w =>
    pvv prog (Instr.makeInterface 126 t_2) w fun t_3 w =>
    K t_3 w)) <|
  pvv prog (Instr.makeInterface 123 (.int .i64 1)) w fun t_4 w =>
  pvv prog (oEq .eql 96 (.tmp 11) (.tmp 20) err_p4 t_4) w fun t_5 w =>
  cd t_5 (
    Calls prog 80 #[fn_p0, s_p1] w (Ret fun t_6 w =>
    pvv prog (Instr.makeInterface 126 t_6) w fun t_7 w =>
    K t_7 w)) <|
  pvv prog (Instr.makeInterface 123 (.int .i64 3)) w fun t_8 w =>
  pvv prog (oEq .eql 96 (.tmp 11) (.tmp 27) err_p4 t_8) w fun t_9 w =>
  cd t_9 (
    Calls prog 81 #[fn_p0, s_p1, base_p2] w (Ret fun t_10 w =>
    pvv prog (Instr.makeInterface 126 t_10) w fun t_11 w =>
    K t_11 w)) <|
  pvv prog (Instr.makeInterface 123 (.int .i64 4)) w fun t_12 w =>
  pvv prog (oEq .eql 96 (.tmp 11) (.tmp 35) err_p4 t_12) w fun t_13 w =>
  cd t_13 (
    Calls prog 82 #[fn_p0, s_p1, bitSize_p3] w (Ret fun t_14 w =>
    pvv prog (Instr.makeInterface 126 t_14) w fun t_15 w =>
    K t_15 w)) <|
  K err_p4 w
theorem B67_eq (fn_p0 s_p1 base_p2 bitSize_p3 err_p4 : Value) (w : World) (K : Value → World → Prop) : denFn prog Tryz.f67 T67 [fn_p0, s_p1, base_p2, bitSize_p3, err_p4] w K = B67 fn_p0 s_p1 base_p2 bitSize_p3 err_p4 w K := by kernel_rfl
theorem c67 {fn_p0 s_p1 base_p2 bitSize_p3 err_p4 : Value} {w : World} {K : Value → World → Prop} (h : B67 fn_p0 s_p1 base_p2 bitSize_p3 err_p4 w K) : Calls prog 67 #[fn_p0, s_p1, base_p2, bitSize_p3, err_p4] w (Ret K) :=
  denFn_calls Tryz.func67 T67_ok (Eq.mpr (B67_eq fn_p0 s_p1 base_p2 bitSize_p3 err_p4 w K) h)

-- 89 strings.IndexRune
def T89 : Ann := (.seq .none (.block (.seq .none (.seq (.seq .none .none) (.seq .none (.seq (.seq (.seq .none (.block (.loop 12164183355622992813219379528005579144973741782332342384 [] (.seq .none (.seq (.seq .none .none) (.block (.seq .none (.seq .none (.seq (.seq .none .none) .none))))))))) (.seq .none .none)) (.seq .none (.seq (.seq .none .none) .none))))))))
theorem T89_ok : chkFn prog Tryz.f89 T89 = true := by kernel_rfl
def B89 (s_p0 r_p1 : Value) (w : World) (K : Value → World → Prop) : Prop :=
  pvv prog (binOp .leq 21 (.int .i32 0) r_p1) w fun t_0 w =>
  gate (some (t_0, true)) (fun K => K r_p1 w) w fun t_1 w =>
  gate (some (t_0, true)) (fun K => pvv prog (binOp .lss 21 t_1 (.int .i32 128)) w K) w fun t_2 w =>
  pv prog (oPick t_0 t_2 (.bool false)) w fun t_3 w =>
  cd t_3 (
    pvv prog (convert 21 5 r_p1) w fun t_4 w =>
    Calls prog 99 #[s_p0, t_4] w (Ret fun t_5 w =>
    K t_5 w)) <|
  pvv prog (oEq .eql 21 (.tmp 172) (.const (.int .i32 65533)) r_p1 (.int .i32 65533)) w fun t_6 w =>
  cd t_6 (
    efv prog (Instr.range 9 s_p0) w fun t_7 w =>
    lp (fun σ w again_8 => fin σ <|
      efv prog (Instr.next t_7 true 0) w fun t_9 w =>
      pvv prog (Instr.extract t_9 0) w fun t_10 w =>
      cd t_10 (
        pvv prog (Instr.extract t_9 1) w fun t_11 w =>
        pvv prog (Instr.extract t_9 2) w fun t_12 w =>
        pvv prog (oEq .eql 21 (.tmp 180) (.const (.int .i32 65533)) t_12 (.int .i32 65533)) w fun t_13 w =>
        cd t_13 (
          K t_11 w) <|
        again_8 [] w) <|
      K (.int .i64 (-1)) w) [] w) <|
  Calls prog 100 #[r_p1] w (Ret fun t_14 w =>
  pvv prog (Op.unary .not t_14) w fun t_15 w =>
  cd t_15 (
    K (.int .i64 (-1)) w) <|
  False)
theorem B89_eq (s_p0 r_p1 : Value) (w : World) (K : Value → World → Prop) : denFn prog Tryz.f89 T89 [s_p0, r_p1] w K = B89 s_p0 r_p1 w K := by kernel_rfl
theorem c89 {s_p0 r_p1 : Value} {w : World} {K : Value → World → Prop} (h : B89 s_p0 r_p1 w K) : Calls prog 89 #[s_p0, r_p1] w (Ret K) :=
  denFn_calls Tryz.func89 T89_ok (Eq.mpr (B89_eq s_p0 r_p1 w K) h)

-- 61 strings.makeASCIISet
def T61 : Ann := (.seq .none (.seq (.seq .none (.block (.loop 1048568 [4] (.seq (.seq .none (.seq .none .none)) (.seq (.block (.seq .none (.seq (.seq .none (.seq (.seq .none .none) .none)) .none))) .none))))) (.seq .none .none)))
theorem T61_ok : chkFn prog Tryz.f61 T61 = true := by kernel_rfl
def B61 (chars_p0 : Value) (w : World) (K : Value → World → Prop) : Prop :=
  efv prog (Instr.alloc 107 true (.tuple #[])) w fun as_0 w =>
  lp (fun σ w again_2 => pop σ fun i_1 σ => fin σ <|
    pv prog (oBi .len #[9] 3 #[false] #[chars_p0]) w fun t_3 w =>
    pvv prog (binOp .lss 3 i_1 t_3) w fun t_4 w =>
    cd t_4 (
      pvv prog (Instr.index 9 chars_p0 i_1) w fun t_5 w =>
      pvv prog (binOp .geq 5 t_5 (.int .u8 128)) w fun t_6 w =>
      cd t_6 (
        ldv prog (Instr.loadAt 107 as_0) w fun t_7 w =>
        efu prog (Instr.storeAt 107 as_0 t_7) w fun u_8 w =>
        ∃ r_9, (do loadVar 107 (← asAddr as_0)).run prog w = .ok r_9 w ∧ K (.tuple #[r_9, (.bool false)]) w) <|
      pvv prog (Instr.indexAt 107 as_0 t_5) w fun t_10 w =>
      efu prog (Instr.storeAt 4 t_10 (.bool true)) w fun u_11 w =>
      pvv prog (binOp .add 3 i_1 (.int .i64 1)) w fun t_12 w =>
      again_2 [t_12] w) <|
    ldv prog (Instr.loadAt 107 as_0) w fun t_13 w =>
    efu prog (Instr.storeAt 107 as_0 t_13) w fun u_14 w =>
    ∃ r_15, (do loadVar 107 (← asAddr as_0)).run prog w = .ok r_15 w ∧ K (.tuple #[r_15, (.bool true)]) w) [(.int .i64 0)] w
theorem B61_eq (chars_p0 : Value) (w : World) (K : Value → World → Prop) : denFn prog Tryz.f61 T61 [chars_p0] w K = B61 chars_p0 w K := by kernel_rfl
theorem c61 {chars_p0 : Value} {w : World} {K : Value → World → Prop} (h : B61 chars_p0 w K) : Calls prog 61 #[chars_p0] w (Ret K) :=
  denFn_calls Tryz.func61 T61_ok (Eq.mpr (B61_eq chars_p0 w K) h)

-- 64 strings.trimLeftUnicode
def T64 : Ann := (.seq .none (.meet 4194273 [0] (.block (.loop 4194273 [0] (.seq (.seq .none (.seq .none .none)) (.block (.seq .none (.seq (.seq .none (.seq .none .none)) .none)))))) (.seq .none .none)))
theorem T64_ok : chkFn prog Tryz.f64 T64 = true := by kernel_rfl
def B64 (s_p0 cutset_p1 : Value) (w : World) (K : Value → World → Prop) : Prop :=
  jn (fun σ w => pop σ fun s_0 σ => fin σ <|
    K s_0 w) fun k_1 =>
  lp (fun σ w again_3 => pop σ fun s_2 σ => fin σ <|
    pv prog (oBi .len #[9] 3 #[false] #[s_2]) w fun t_4 w =>
    pvv prog (binOp .gtr 3 t_4 (.int .i64 0)) w fun t_5 w =>
    cd t_5 (
      Calls prog 74 #[s_2] w (Ret fun t_6 w =>
      pvv prog (Instr.extract t_6 0) w fun t_7 w =>
      pvv prog (Instr.extract t_6 1) w fun t_8 w =>
      Calls prog 75 #[cutset_p1, t_7] w (Ret fun t_9 w =>
      pvv prog (Op.unary .not t_9) w fun t_10 w =>
      cd t_10 (
        k_1 [s_2] w) <|
      pvv prog (Instr.sliceAt 9 s_2 (some t_8) none none) w fun t_11 w =>
      again_3 [t_11] w))) <|
    k_1 [s_2] w) [s_p0] w
theorem B64_eq (s_p0 cutset_p1 : Value) (w : World) (K : Value → World → Prop) : denFn prog Tryz.f64 T64 [s_p0, cutset_p1] w K = B64 s_p0 cutset_p1 w K := by kernel_rfl
theorem c64 {s_p0 cutset_p1 : Value} {w : World} {K : Value → World → Prop} (h : B64 s_p0 cutset_p1 w K) : Calls prog 64 #[s_p0, cutset_p1] w (Ret K) :=
  denFn_calls Tryz.func64 T64_ok (Eq.mpr (B64_eq s_p0 cutset_p1 w K) h)

-- 42 holdfast/codec.Number
def T42 : Ann := (.seq .none (.seq (.seq .none (.seq (.seq .none .none) .none)) (.seq .none (.seq .none .none))))
theorem T42_ok : chkFn prog Tryz.f42 T42 = true := by kernel_rfl
def B42 (n_p0 : Value) (w : World) (K : Value → World → Prop) : Prop :=
  pvv prog (binOp .lss 3 n_p0 (.int .i64 0)) w fun t_0 w =>
  gate (some (t_0, false)) (fun K => K n_p0 w) w fun t_1 w =>
  gate (some (t_0, false)) (fun K => pvv prog (binOp .gtr 3 t_1 (.int .i64 4611686018427387904)) w K) w fun t_2 w =>
  pv prog (oPick t_0 (.bool true) t_2) w fun t_3 w =>
  cd t_3 (
    K (.tuple #[(.string ⟨#[]⟩), (.int .i64 2)]) w) <|
  Calls prog 54 #[n_p0, (.int .i64 16)] w (Ret fun t_4 w =>
  Calls prog 53 #[t_4, (.string ⟨#[48]⟩)] w (Ret fun t_5 w =>
  pv prog (oBi .len #[9] 3 #[false] #[t_5]) w fun t_6 w =>
  pvv prog (binOp .add 3 (.int .i64 97) t_6) w fun t_7 w =>
  pvv prog (convert 3 21 t_7) w fun t_8 w =>
  pvv prog (convert 21 9 t_8) w fun t_9 w =>
  pvv prog (binOp .add 9 t_9 t_5) w fun t_10 w =>
  K (.tuple #[t_10, (.int .i64 0)]) w))
theorem B42_eq (n_p0 : Value) (w : World) (K : Value → World → Prop) : denFn prog Tryz.f42 T42 [n_p0] w K = B42 n_p0 w K := by kernel_rfl
theorem c42 {n_p0 : Value} {w : World} {K : Value → World → Prop} (h : B42 n_p0 w K) : Calls prog 42 #[n_p0] w (Ret K) :=
  denFn_calls Tryz.func42 T42_ok (Eq.mpr (B42_eq n_p0 w K) h)

-- 74 unicode/utf8.DecodeRuneInString
def T74 : Ann := (.seq .none (.seq (.seq .none (.seq (.seq .none .none) .none)) .none))
theorem T74_ok : chkFn prog Tryz.f74 T74 = true := by kernel_rfl
def B74 (s_p0 : Value) (w : World) (K : Value → World → Prop) : Prop :=
  pvv prog (oEq .neq 9 (.tmp 4) (.const (.string ⟨#[]⟩)) s_p0 (.string ⟨#[]⟩)) w fun t_0 w =>
  gate (some (t_0, true)) (fun K => K s_p0 w) w fun t_1 w =>
  gate (some (t_0, true)) (fun K => pvv prog (Instr.index 9 t_1 (.int .i64 0)) w K) w fun t_2 w =>
  gate (some (t_0, true)) (fun K => pvv prog (binOp .lss 5 t_2 (.int .u8 128)) w K) w fun t_3 w =>
  pv prog (oPick t_0 t_3 (.bool false)) w fun t_4 w =>
  cd t_4 (
    pvv prog (Instr.index 9 s_p0 (.int .i64 0)) w fun t_5 w =>
    pvv prog (convert 5 21 t_5) w fun t_6 w =>
    K (.tuple #[t_6, (.int .i64 1)]) w) <|
  Calls prog 88 #[s_p0] w (Ret fun t_7 w =>
  pvv prog (Instr.extract t_7 0) w fun t_8 w =>
  pvv prog (Instr.extract t_7 1) w fun t_9 w =>
  K (.tuple #[t_8, t_9]) w)
theorem B74_eq (s_p0 : Value) (w : World) (K : Value → World → Prop) : denFn prog Tryz.f74 T74 [s_p0] w K = B74 s_p0 w K := by kernel_rfl
theorem c74 {s_p0 : Value} {w : World} {K : Value → World → Prop} (h : B74 s_p0 w K) : Calls prog 74 #[s_p0] w (Ret K) :=
  denFn_calls Tryz.func74 T74_ok (Eq.mpr (B74_eq s_p0 w K) h)

-- 91 internal/stringslite.Clone
def T91 : Ann := (.seq .none (.seq (.seq .none (.seq (.seq .none .none) .none)) (.seq .none (.seq .none (.seq .none .none)))))
theorem T91_ok : chkFn prog Tryz.f91 T91 = true := by kernel_rfl
def B91 (s_p0 : Value) (w : World) (K : Value → World → Prop) : Prop :=
  pv prog (oBi .len #[9] 3 #[false] #[s_p0]) w fun t_0 w =>
  pvv prog (oEq .eql 3 (.tmp 5) (.const (.int .i64 0)) t_0 (.int .i64 0)) w fun t_1 w =>
  cd t_1 (
    K (.string ⟨#[]⟩) w) <|
  pv prog (oBi .len #[9] 3 #[false] #[s_p0]) w fun t_2 w =>
  efv prog (Instr.makeSlice 74 t_2 t_2) w fun t_3 w =>
  ef prog (oBi .copy #[74, 9] 3 #[false, false] #[t_3, s_p0]) w fun t_4 w =>
  pvv prog (Instr.indexAt 74 t_3 (.int .i64 0)) w fun t_5 w =>
  pv prog (oBi .len #[74] 3 #[false] #[t_3]) w fun t_6 w =>
  ef prog (oBi .unsafeString #[153, 3] 9 #[false, false] #[t_5, t_6]) w fun t_7 w =>
  K t_7 w
theorem B91_eq (s_p0 : Value) (w : World) (K : Value → World → Prop) : denFn prog Tryz.f91 T91 [s_p0] w K = B91 s_p0 w K := by kernel_rfl
theorem c91 {s_p0 : Value} {w : World} {K : Value → World → Prop} (h : B91 s_p0 w K) : Calls prog 91 #[s_p0] w (Ret K) :=
  denFn_calls Tryz.func91 T91_ok (Eq.mpr (B91_eq s_p0 w K) h)

-- 105 math/bits.TrailingZeros64
def T105 : Ann := (.seq .none (.seq (.seq .none (.seq (.seq .none .none) .none)) (.seq .none .none)))
theorem T105_ok : chkFn prog Tryz.f105 T105 = true := by kernel_rfl
def B105 (x_p0 : Value) (w : World) (K : Value → World → Prop) : Prop :=
  pvv prog (oEq .eql 94 (.tmp 3) (.const (.int .u64 0)) x_p0 (.int .u64 0)) w fun t_0 w =>
  cd t_0 (
    K (.int .i64 64) w) <|
  pvv prog (Op.unary .neg x_p0) w fun t_1 w =>
  pvv prog (binOp .and 94 x_p0 t_1) w fun t_2 w =>
  pvv prog (binOp .mul 94 t_2 (.int .u64 285870213051353865)) w fun t_3 w =>
  pvv prog (binOp .shr 94 t_3 (.int .u64 58)) w fun t_4 w =>
  pvv prog (Instr.indexAt 158 (.pointer (some ⟨7, 0, none⟩)) t_4) w fun t_5 w =>
  ldv prog (Instr.loadAt 5 t_5) w fun t_6 w =>
  pvv prog (convert 5 3 t_6) w fun t_7 w =>
  K t_7 w
theorem B105_eq (x_p0 : Value) (w : World) (K : Value → World → Prop) : denFn prog Tryz.f105 T105 [x_p0] w K = B105 x_p0 w K := by kernel_rfl
theorem c105 {x_p0 : Value} {w : World} {K : Value → World → Prop} (h : B105 x_p0 w K) : Calls prog 105 #[x_p0] w (Ret K) :=
  denFn_calls Tryz.func105 T105_ok (Eq.mpr (B105_eq x_p0 w K) h)

-- 80 strconv.rangeError
def T80 : Ann := (.seq .none (.seq (.draw [.op 0 .pure, .op 1 .pure, .op 3 .load, .op 2 .eff, .op 4 .pure, .op 5 .eff, .op 6 .pure]) .none))
theorem T80_ok : chkFn prog Tryz.f80 T80 = true := by kernel_rfl
def B80 (fn_p0 str_p1 : Value) (w : World) (K : Value → World → Prop) : Prop :=
  dr w fun w =>
  bindS (vN (Instr.loadAt 96 (.pointer (some ⟨1, 0, none⟩)))) fun m_1 => ldv prog (Instr.loadAt 96 (.pointer (some ⟨1, 0, none⟩))) w fun t_0 w =>
  Calls prog 91 #[str_p1] w (Ret fun t_2 w => stay prog none m_1 t_0 w <| 
  pvv prog (Instr.build 138 #[(0, fn_p0), (1, t_2), (2, t_0)]) w fun t_3 w =>
  efv prog (Instr.box 138 t_3) w fun t_4 w => stay prog none m_1 t_0 w <| 
  K t_4 w)
theorem B80_eq (fn_p0 str_p1 : Value) (w : World) (K : Value → World → Prop) : denFn prog Tryz.f80 T80 [fn_p0, str_p1] w K = B80 fn_p0 str_p1 w K := by kernel_rfl
theorem c80 {fn_p0 str_p1 : Value} {w : World} {K : Value → World → Prop} (h : B80 fn_p0 str_p1 w K) : Calls prog 80 #[fn_p0, str_p1] w (Ret K) :=
  denFn_calls Tryz.func80 T80_ok (Eq.mpr (B80_eq fn_p0 str_p1 w K) h)

-- 48 holdfast/hash.Chain
def T48 : Ann := (.seq .none (.seq .none .none))
theorem T48_ok : chkFn prog Tryz.f48 T48 = true := by kernel_rfl
def B48 (h_p0 b_p1 : Value) (w : World) (K : Value → World → Prop) : Prop :=
  efv prog (Instr.box 44 h_p0) w fun h_0 w =>
  efv prog (Instr.alloc 44 true (.tuple #[])) w fun t_1 w =>
  pvv prog (Instr.sliceAt 44 h_0 none none none) w fun t_2 w =>
  ef prog (oBi .append #[74, 74] 74 #[false, false] #[t_2, b_p1]) w fun t_3 w =>
  Calls prog 57 #[t_3] w (Ret fun t_4 w =>
  efu prog (Instr.storeAt 44 t_1 t_4) w fun u_5 w =>
  ∃ r_6, (do loadVar 44 (← asAddr t_1)).run prog w = .ok r_6 w ∧ K r_6 w)
theorem B48_eq (h_p0 b_p1 : Value) (w : World) (K : Value → World → Prop) : denFn prog Tryz.f48 T48 [h_p0, b_p1] w K = B48 h_p0 b_p1 w K := by kernel_rfl
theorem c48 {h_p0 b_p1 : Value} {w : World} {K : Value → World → Prop} (h : B48 h_p0 b_p1 w K) : Calls prog 48 #[h_p0, b_p1] w (Ret K) :=
  denFn_calls Tryz.func48 T48_ok (Eq.mpr (B48_eq h_p0 b_p1 w K) h)

-- 72 bytes.Clone
def T72 : Ann := (.seq .none (.seq (.seq .none (.seq (.seq .none .none) .none)) (.seq .none .none)))
theorem T72_ok : chkFn prog Tryz.f72 T72 = true := by kernel_rfl
def B72 (b_p0 : Value) (w : World) (K : Value → World → Prop) : Prop :=
  pvv prog (oEq .eql 74 (.tmp 3) (.const (.slice none 0 0)) b_p0 (.slice none 0 0)) w fun t_0 w =>
  cd t_0 (
    K (.slice none 0 0) w) <|
  efv prog (Instr.buildSlice 74 0 #[]) w fun t_1 w =>
  ef prog (oBi .append #[74, 74] 74 #[false, false] #[t_1, b_p0]) w fun t_2 w =>
  K t_2 w
theorem B72_eq (b_p0 : Value) (w : World) (K : Value → World → Prop) : denFn prog Tryz.f72 T72 [b_p0] w K = B72 b_p0 w K := by kernel_rfl
theorem c72 {b_p0 : Value} {w : World} {K : Value → World → Prop} (h : B72 b_p0 w K) : Calls prog 72 #[b_p0] w (Ret K) :=
  denFn_calls Tryz.func72 T72_ok (Eq.mpr (B72_eq b_p0 w K) h)

-- 73 (*strings.asciiSet).contains
def T73 : Ann := (.seq .none (.seq .none .none))
theorem T73_ok : chkFn prog Tryz.f73 T73 = true := by kernel_rfl
def B73 (as_p0 c_p1 : Value) (w : World) (K : Value → World → Prop) : Prop :=
  pv prog (oNil as_p0) w fun t_0 w =>
  pvv prog (Instr.indexAt 107 t_0 c_p1) w fun t_1 w =>
  ldv prog (Instr.loadAt 4 t_1) w fun t_2 w =>
  K t_2 w
theorem B73_eq (as_p0 c_p1 : Value) (w : World) (K : Value → World → Prop) : denFn prog Tryz.f73 T73 [as_p0, c_p1] w K = B73 as_p0 c_p1 w K := by kernel_rfl
theorem c73 {as_p0 c_p1 : Value} {w : World} {K : Value → World → Prop} (h : B73 as_p0 c_p1 w K) : Calls prog 73 #[as_p0, c_p1] w (Ret K) :=
  denFn_calls Tryz.func73 T73_ok (Eq.mpr (B73_eq as_p0 c_p1 w K) h)

-- 75 strings.ContainsRune
def T75 : Ann := (.seq .none (.seq .none .none))
theorem T75_ok : chkFn prog Tryz.f75 T75 = true := by kernel_rfl
def B75 (s_p0 r_p1 : Value) (w : World) (K : Value → World → Prop) : Prop :=
  Calls prog 89 #[s_p0, r_p1] w (Ret fun t_0 w =>
  pvv prog (binOp .geq 3 t_0 (.int .i64 0)) w fun t_1 w =>
  K t_1 w)
theorem B75_eq (s_p0 r_p1 : Value) (w : World) (K : Value → World → Prop) : denFn prog Tryz.f75 T75 [s_p0, r_p1] w K = B75 s_p0 r_p1 w K := by kernel_rfl
theorem c75 {s_p0 r_p1 : Value} {w : World} {K : Value → World → Prop} (h : B75 s_p0 r_p1 w K) : Calls prog 75 #[s_p0, r_p1] w (Ret K) :=
  denFn_calls Tryz.func75 T75_ok (Eq.mpr (B75_eq s_p0 r_p1 w K) h)

-- 49 holdfast/holdfastref02.digit
def T49 : Ann := (.seq .none (.seq .none .none))
theorem T49_ok : chkFn prog Tryz.f49 T49 = true := by kernel_rfl
def B49 (n_p0 : Value) (w : World) (K : Value → World → Prop) : Prop :=
  pvv prog (Instr.index 9 (.string ⟨#[48, 49, 50, 51, 52, 53, 54, 55, 56, 57, 97, 98, 99, 100, 101, 102]⟩) n_p0) w fun t_0 w =>
  K t_0 w
theorem B49_eq (n_p0 : Value) (w : World) (K : Value → World → Prop) : denFn prog Tryz.f49 T49 [n_p0] w K = B49 n_p0 w K := by kernel_rfl
theorem c49 {n_p0 : Value} {w : World} {K : Value → World → Prop} (h : B49 n_p0 w K) : Calls prog 49 #[n_p0] w (Ret K) :=
  denFn_calls Tryz.func49 T49_ok (Eq.mpr (B49_eq n_p0 w K) h)

-- 94 internal/strconv.log10Pow2
def T94 : Ann := (.seq .none (.seq .none .none))
theorem T94_ok : chkFn prog Tryz.f94 T94 = true := by kernel_rfl
def B94 (x_p0 : Value) (w : World) (K : Value → World → Prop) : Prop :=
  pvv prog (binOp .mul 3 x_p0 (.int .i64 78913)) w fun t_0 w =>
  pvv prog (binOp .shr 3 t_0 (.int .u64 18)) w fun t_1 w =>
  K t_1 w
theorem B94_eq (x_p0 : Value) (w : World) (K : Value → World → Prop) : denFn prog Tryz.f94 T94 [x_p0] w K = B94 x_p0 w K := by kernel_rfl
theorem c94 {x_p0 : Value} {w : World} {K : Value → World → Prop} (h : B94 x_p0 w K) : Calls prog 94 #[x_p0] w (Ret K) :=
  denFn_calls Tryz.func94 T94_ok (Eq.mpr (B94_eq x_p0 w K) h)

-- 96 internal/strconv.bool2[int]
def T96 : Ann := (.seq .none (.seq (.seq .none (.seq (.seq .none .none) .none)) (.seq .none .none)))
theorem T96_ok : chkFn prog Tryz.f96 T96 = true := by kernel_rfl
def B96 (b_p0 : Value) (w : World) (K : Value → World → Prop) : Prop :=
  cd b_p0 (
    K (.int .i64 1) w) <|
  K (.int .i64 0) w
theorem B96_eq (b_p0 : Value) (w : World) (K : Value → World → Prop) : denFn prog Tryz.f96 T96 [b_p0] w K = B96 b_p0 w K := by kernel_rfl
theorem c96 {b_p0 : Value} {w : World} {K : Value → World → Prop} (h : B96 b_p0 w K) : Calls prog 96 #[b_p0] w (Ret K) :=
  denFn_calls Tryz.func96 T96_ok (Eq.mpr (B96_eq b_p0 w K) h)

-- 5 holdfast/holdfastref14.New
def T5 : Ann := (.seq .none (.seq .none .none))
theorem T5_ok : chkFn prog Tryz.f5 T5 = true := by kernel_rfl
def B5 (w : World) (K : Value → World → Prop) : Prop :=
  pvv prog (Instr.build 54 #[]) w fun t_0 w =>
  efv prog (Instr.box 54 t_0) w fun t_1 w =>
  K t_1 w
theorem B5_eq (w : World) (K : Value → World → Prop) : denFn prog Tryz.f5 T5 [] w K = B5  w K := by kernel_rfl
theorem c5 {w : World} {K : Value → World → Prop} (h : B5  w K) : Calls prog 5 #[] w (Ret K) :=
  denFn_calls Tryz.func5 T5_ok (Eq.mpr (B5_eq  w K) h)


end Go.Proofs.YtjeiojibnmfibaaGreatDoor
