import Derived.Test.YtmnaalpjhkkglaaGreatDoorPI
set_option linter.all false
set_option maxRecDepth 100000
namespace Go.Proofs.YtmnaalpjhkkglaaGreatDoor
open Go Hold
-- 44 (*holdfast/cred.Book).take
def T44 : Ann := (.seq .none (.seq .none (.seq (.seq .none (.seq (.seq .none .none) .none)) (.seq (.draw [.op 0 .pure, .op 1 .pure, .op 3 .pure, .op 4 .pure, .op 2 .load, .op 5 .load, .op 6 .pure, .op 7 .eff, .op 8 .eff]) (.seq (.draw [.op 0 .pure, .op 1 .pure, .op 2 .pure, .op 3 .load, .op 4 .load, .op 5 .load, .op 6 .pure, .op 7 .pure, .op 8 .pure, .op 9 .eff, .op 10 .eff, .op 11 .pure]) (.seq .none (.seq (.seq .none (.seq (.seq .none (.seq (.draw [.op 0 .pure, .op 1 .pure, .op 2 .pure, .op 3 .load, .op 4 .load, .op 5 .load, .op 6 .eff]) (.seq (.draw [.op 0 .pure, .op 1 .pure, .op 2 .pure, .op 3 .load, .op 4 .pure, .op 5 .pure, .op 6 .pure, .op 7 .pure, .op 8 .pure, .op 9 .load, .op 10 .pure, .op 11 .pure, .op 12 .pure, .op 13 .pure, .op 14 .pure, .op 15 .pure, .op 17 .pure, .op 16 .load, .op 18 .load, .op 19 .pure, .op 20 .pure, .op 21 .pure, .op 22 .pure, .op 23 .pure, .op 24 .pure, .op 25 .pure]) .none))) .none)) (.seq (.seq .none (.seq (.seq .none .none) .none)) (.seq .none (.seq (.seq .none (.seq (.seq .none .none) .none)) (.seq (.draw [.op 0 .pure, .op 1 .pure, .op 2 .pure, .op 5 .pure, .op 6 .pure, .op 8 .pure, .op 9 .pure, .op 13 .pure, .op 17 .pure, .op 18 .pure, .op 3 .load, .op 4 .load, .op 7 .load, .op 10 .load, .op 11 .pure, .op 12 .load, .op 14 .load, .op 15 .pure, .op 16 .load, .op 19 .load, .op 20 .pure, .op 21 .eff]) (.seq .none .none))))))))))))
theorem T44_ok : chkFn prog Tryz.f44 T44 = true := by kernel_rfl
def B44 (b_p0 r_p1 : Value) (w : World) (K : Value → World → Prop) : Prop :=
  efv prog (Instr.box 41 r_p1) w fun r_0 w =>
  pvv prog (Instr.fieldAt 41 r_0 0) w fun t_1 w =>
  ldv prog (Instr.loadAt 9 t_1) w fun t_2 w =>
  Calls prog 66 #[t_2, (.string ⟨#[47]⟩), (.int .i64 3)] w (Ret fun t_3 w =>
  pv prog (oBi .len #[39] 3 #[false] #[t_3]) w fun t_4 w =>
  pvv prog (binOp .lss 3 t_4 (.int .i64 2)) w fun t_5 w =>
  gate (some (t_5, false)) (fun K => K t_3 w) w fun t_6 w =>
  gate (some (t_5, false)) (fun K => pvv prog (Instr.indexAt 39 t_6 (.int .i64 0)) w K) w fun t_7 w =>
  gate (some (t_5, false)) (fun K => ldv prog (Instr.loadAt 9 t_7) w K) w fun t_8 w =>
  gate (some (t_5, false)) (fun K => Calls prog 53 #[t_8] w (Ret K)) w fun t_9 w =>
  gate (some (t_5, false)) (fun K => pvv prog (Op.unary .not t_9) w K) w fun t_10 w =>
  pv prog (oPick t_5 (.bool true) t_10) w fun t_11 w =>
  gate (some (t_11, false)) (fun K => K t_3 w) w fun t_12 w =>
  gate (some (t_11, false)) (fun K => pvv prog (Instr.indexAt 39 t_12 (.int .i64 1)) w K) w fun t_13 w =>
  gate (some (t_11, false)) (fun K => ldv prog (Instr.loadAt 9 t_13) w K) w fun t_14 w =>
  gate (some (t_11, false)) (fun K => Calls prog 53 #[t_14] w (Ret K)) w fun t_15 w =>
  gate (some (t_11, false)) (fun K => pvv prog (Op.unary .not t_15) w K) w fun t_16 w =>
  pv prog (oPick t_11 (.bool true) t_16) w fun t_17 w =>
  gate (some (t_17, false)) (fun K => pvv prog (Instr.fieldAt 41 r_0 1) w K) w fun t_18 w =>
  gate (some (t_17, false)) (fun K => ldv prog (Instr.loadAt 39 t_18) w K) w fun t_19 w =>
  gate (some (t_17, false)) (fun K => pv prog (oBi .len #[39] 3 #[false] #[t_19]) w K) w fun t_20 w =>
  gate (some (t_17, false)) (fun K => pvv prog (oEq .eql 3 (.tmp 35) (.const (.int .i64 0)) t_20 (.int .i64 0)) w K) w fun t_21 w =>
  pv prog (oPick t_17 (.bool true) t_21) w fun t_22 w =>
  gate (some (t_22, false)) (fun K => pvv prog (Instr.fieldAt 41 r_0 1) w K) w fun t_23 w =>
  gate (some (t_22, false)) (fun K => ldv prog (Instr.loadAt 39 t_23) w K) w fun t_24 w =>
  gate (some (t_22, false)) (fun K => pvv prog (Instr.indexAt 39 t_24 (.int .i64 0)) w K) w fun t_25 w =>
  gate (some (t_22, false)) (fun K => ldv prog (Instr.loadAt 9 t_25) w K) w fun t_26 w =>
  gate (some (t_22, false)) (fun K => pv prog (oBi .len #[9] 3 #[false] #[t_26]) w K) w fun t_27 w =>
  gate (some (t_22, false)) (fun K => pvv prog (oEq .neq 3 (.tmp 43) (.const (.int .i64 32)) t_27 (.int .i64 32)) w K) w fun t_28 w =>
  pv prog (oPick t_22 (.bool true) t_28) w fun t_29 w =>
  cd t_29 (
    K (.bool false) w) <|
  dr w fun w =>
  pvv prog (Instr.indexAt 39 t_3 (.int .i64 0)) w fun t_30 w =>
  pvv prog (Instr.indexAt 39 t_3 (.int .i64 1)) w fun t_31 w =>
  bindS (vN (Instr.loadAt 9 t_30)) fun m_33 => ldv prog (Instr.loadAt 9 t_30) w fun t_32 w =>
  bindS (vN (Instr.loadAt 9 t_31)) fun m_35 => ldv prog (Instr.loadAt 9 t_31) w fun t_34 w =>
  pvv prog (Instr.build 54 #[(0, t_32), (1, t_34)]) w fun t_36 w =>
  efv prog (Instr.alloc 54 true (.tuple #[])) w fun o_37 w => stay prog none m_35 t_34 w <| stay prog none m_33 t_32 w <| 
  efu prog (Instr.storeAt 54 o_37 t_36) w fun u_38 w =>
  dr w fun w =>
  pv prog (oNil b_p0) w fun t_39 w =>
  pvv prog (Instr.fieldAt 100 t_39 0) w fun t_40 w =>
  bindS (vN (Instr.loadAt 98 t_40)) fun m_42 => ldv prog (Instr.loadAt 98 t_40) w fun t_41 w =>
  bindS (vN (Instr.loadAt 54 o_37)) fun m_44 => ldv prog (Instr.loadAt 54 o_37) w fun t_43 w =>
  bindS (vN (Instr.lookup 98 t_41 t_43 true)) fun m_46 => ldv prog (Instr.lookup 98 t_41 t_43 true) w fun t_45 w =>
  pvv prog (Instr.extract t_45 0) w fun t_47 w =>
  pvv prog (Instr.extract t_45 1) w fun t_48 w =>
  efv prog (Instr.alloc 105 true (.tuple #[])) w fun x_49 w => stay prog none m_46 t_45 w <| stay prog none m_44 t_43 w <| stay prog none m_42 t_41 w <| 
  efu prog (Instr.storeAt 105 x_49 t_47) w fun u_50 w =>
  pvv prog (Instr.fieldAt 41 r_0 1) w fun t_51 w =>
  ldv prog (Instr.loadAt 39 t_51) w fun t_52 w =>
  pvv prog (Instr.indexAt 39 t_52 (.int .i64 0)) w fun t_53 w =>
  ldv prog (Instr.loadAt 9 t_53) w fun t_54 w =>
  efv prog (convert 9 22 t_54) w fun t_55 w =>
  efv prog (Instr.arrayAt 28 t_55) w fun t_56 w =>
  ldv prog (Instr.loadAt 28 t_56) w fun t_57 w =>
  efv prog (Instr.alloc 28 true (.tuple #[])) w fun h_58 w =>
  efu prog (Instr.storeAt 28 h_58 t_57) w fun u_59 w =>
  pv prog (oBi .len #[39] 3 #[false] #[t_3]) w fun t_60 w =>
  pvv prog (oEq .eql 3 (.tmp 70) (.const (.int .i64 3)) t_60 (.int .i64 3)) w fun t_61 w =>
  cd t_61 (
    pvv prog (Instr.fieldAt 105 x_49 4) w fun t_62 w =>
    ldv prog (Instr.loadAt 103 t_62) w fun t_63 w =>
    ldv prog (Instr.loadAt 28 h_58) w fun t_64 w =>
    efv prog (Instr.buildSlice 103 1 #[(0, t_64)]) w fun t_65 w =>
    ef prog (oBi .append #[103, 103] 103 #[false, false] #[t_63, t_65]) w fun t_66 w =>
    pvv prog (Instr.fieldAt 105 x_49 4) w fun t_67 w =>
    efu prog (Instr.storeAt 103 t_67 t_66) w fun u_68 w =>
    dr w fun w =>
    pv prog (oNil b_p0) w fun t_69 w =>
    pvv prog (Instr.fieldAt 100 t_69 0) w fun t_70 w =>
    bindS (vN (Instr.loadAt 98 t_70)) fun m_72 => ldv prog (Instr.loadAt 98 t_70) w fun t_71 w =>
    bindS (vN (Instr.loadAt 54 o_37)) fun m_74 => ldv prog (Instr.loadAt 54 o_37) w fun t_73 w =>
    bindS (vN (Instr.loadAt 105 x_49)) fun m_76 => ldv prog (Instr.loadAt 105 x_49) w fun t_75 w =>
    efu prog (Instr.mapUpdate 98 t_71 t_73 t_75) w fun u_77 w =>
    dr w fun w =>
    gate (some (t_48, true)) (fun K => pvv prog (Instr.fieldAt 41 r_0 1) w K) w fun t_78 w =>
    bindS (vN (Instr.loadAt 39 t_78)) fun m_80 => gate (some (t_48, true)) (fun K => ldv prog (Instr.loadAt 39 t_78) w K) w fun t_79 w =>
    gate (some (t_48, true)) (fun K => pv prog (oBi .len #[39] 3 #[false] #[t_79]) w K) w fun t_81 w =>
    gate (some (t_48, true)) (fun K => pvv prog (oEq .eql 3 (.tmp 88) (.const (.int .i64 1)) t_81 (.int .i64 1)) w K) w fun t_82 w =>
    pv prog (oPick t_48 t_82 (.bool false)) w fun t_83 w =>
    gate (some (t_83, true)) (fun K => pvv prog (Instr.fieldAt 105 x_49 4) w K) w fun t_84 w =>
    bindS (vN (Instr.loadAt 103 t_84)) fun m_86 => gate (some (t_83, true)) (fun K => ldv prog (Instr.loadAt 103 t_84) w K) w fun t_85 w =>
    gate (some (t_83, true)) (fun K => pv prog (oBi .len #[103] 3 #[false] #[t_85]) w K) w fun t_87 w =>
    gate (some (t_83, true)) (fun K => pvv prog (binOp .leq 3 t_87 (.int .i64 4)) w K) w fun t_88 w =>
    pv prog (oPick t_83 t_88 (.bool false)) w fun t_89 w =>
    gate (some (t_89, true)) (fun K => K t_3 w) w fun t_90 w =>
    gate (some (t_89, true)) (fun K => pvv prog (Instr.indexAt 39 t_90 (.int .i64 2)) w K) w fun t_91 w =>
    gate (some (t_89, true)) (fun K => pvv prog (Instr.fieldAt 105 x_49 4) w K) w fun t_92 w =>
    bindS (vN (Instr.loadAt 9 t_91)) fun m_94 => gate (some (t_89, true)) (fun K => ldv prog (Instr.loadAt 9 t_91) w K) w fun t_93 w =>
    bindS (vN (Instr.loadAt 103 t_92)) fun m_96 => gate (some (t_89, true)) (fun K => ldv prog (Instr.loadAt 103 t_92) w K) w fun t_95 w =>
    gate (some (t_89, true)) (fun K => pv prog (oBi .len #[103] 3 #[false] #[t_95]) w K) w fun t_97 w =>
    gate (some (t_89, true)) (fun K => pvv prog (binOp .add 3 (.int .i64 48) t_97) w K) w fun t_98 w =>
    gate (some (t_89, true)) (fun K => pvv prog (convert 3 21 t_98) w K) w fun t_99 w =>
    gate (some (t_89, true)) (fun K => pvv prog (convert 21 9 t_99) w K) w fun t_100 w =>
    gate (some (t_89, true)) (fun K => pvv prog (oEq .eql 9 (.tmp 100) (.tmp 106) t_93 t_100) w K) w fun t_101 w =>
    pv prog (oPick t_89 t_101 (.bool false)) w fun t_102 w =>
    K t_102 w) <|
  pvv prog (Instr.fieldAt 41 r_0 1) w fun t_104 w =>
  ldv prog (Instr.loadAt 39 t_104) w fun t_105 w =>
  pv prog (oBi .len #[39] 3 #[false] #[t_105]) w fun t_106 w =>
  pvv prog (oEq .neq 3 (.tmp 111) (.const (.int .i64 5)) t_106 (.int .i64 5)) w fun t_107 w =>
  gate (some (t_107, false)) (fun K => pvv prog (Instr.fieldAt 41 r_0 1) w K) w fun t_108 w =>
  gate (some (t_107, false)) (fun K => ldv prog (Instr.loadAt 39 t_108) w K) w fun t_109 w =>
  gate (some (t_107, false)) (fun K => pvv prog (Instr.indexAt 39 t_109 (.int .i64 1)) w K) w fun t_110 w =>
  gate (some (t_107, false)) (fun K => ldv prog (Instr.loadAt 9 t_110) w K) w fun t_111 w =>
  gate (some (t_107, false)) (fun K => pv prog (oBi .len #[9] 3 #[false] #[t_111]) w K) w fun t_112 w =>
  gate (some (t_107, false)) (fun K => pvv prog (binOp .gtr 3 t_112 (.int .i64 8)) w K) w fun t_113 w =>
  pv prog (oPick t_107 (.bool true) t_113) w fun t_114 w =>
  gate (some (t_114, false)) (fun K => K b_p0 w) w fun t_115 w =>
  gate (some (t_114, false)) (fun K => K t_3 w) w fun t_116 w =>
  gate (some (t_114, false)) (fun K => pvv prog (Instr.indexAt 39 t_116 (.int .i64 0)) w K) w fun t_117 w =>
  gate (some (t_114, false)) (fun K => ldv prog (Instr.loadAt 9 t_117) w K) w fun t_118 w =>
  gate (some (t_114, false)) (fun K => Calls prog 39 #[t_115, t_118] w (Ret K)) w fun t_119 w =>
  pv prog (oPick t_114 (.bool true) t_119) w fun t_120 w =>
  cd t_120 (
    K (.bool false) w) <|
  pvv prog (Instr.fieldAt 41 r_0 1) w fun t_121 w =>
  ldv prog (Instr.loadAt 39 t_121) w fun t_122 w =>
  pvv prog (Instr.sliceAt 39 t_122 (some (.int .i64 2)) none none) w fun t_123 w =>
  Calls prog 67 #[t_123] w (Ret fun t_124 w =>
  pvv prog (Instr.extract t_124 0) w fun t_125 w =>
  pvv prog (Instr.extract t_124 1) w fun t_126 w =>
  pvv prog (Op.unary .not t_126) w fun t_127 w =>
  gate (some (t_127, false)) (fun K => K t_125 w) w fun t_128 w =>
  gate (some (t_127, false)) (fun K => pvv prog (Instr.indexAt 142 t_128 (.int .i64 0)) w K) w fun t_129 w =>
  gate (some (t_127, false)) (fun K => ldv prog (Instr.loadAt 3 t_129) w K) w fun t_130 w =>
  gate (some (t_127, false)) (fun K => pvv prog (binOp .lss 3 t_130 (.int .i64 1)) w K) w fun t_131 w =>
  pv prog (oPick t_127 (.bool true) t_131) w fun t_132 w =>
  gate (some (t_132, false)) (fun K => K t_125 w) w fun t_133 w =>
  gate (some (t_132, false)) (fun K => pvv prog (Instr.indexAt 142 t_133 (.int .i64 0)) w K) w fun t_134 w =>
  gate (some (t_132, false)) (fun K => ldv prog (Instr.loadAt 3 t_134) w K) w fun t_135 w =>
  gate (some (t_132, false)) (fun K => pvv prog (binOp .gtr 3 t_135 (.int .i64 64)) w K) w fun t_136 w =>
  pv prog (oPick t_132 (.bool true) t_136) w fun t_137 w =>
  gate (some (t_137, false)) (fun K => K t_125 w) w fun t_138 w =>
  gate (some (t_137, false)) (fun K => pvv prog (Instr.indexAt 142 t_138 (.int .i64 1)) w K) w fun t_139 w =>
  gate (some (t_137, false)) (fun K => ldv prog (Instr.loadAt 3 t_139) w K) w fun t_140 w =>
  gate (some (t_137, false)) (fun K => pvv prog (binOp .gtr 3 t_140 (.int .i64 3)) w K) w fun t_141 w =>
  pv prog (oPick t_137 (.bool true) t_141) w fun t_142 w =>
  gate (some (t_142, false)) (fun K => K t_125 w) w fun t_143 w =>
  gate (some (t_142, false)) (fun K => pvv prog (Instr.indexAt 142 t_143 (.int .i64 2)) w K) w fun t_144 w =>
  gate (some (t_142, false)) (fun K => ldv prog (Instr.loadAt 3 t_144) w K) w fun t_145 w =>
  gate (some (t_142, false)) (fun K => pvv prog (binOp .gtr 3 t_145 (.int .i64 1099511627876)) w K) w fun t_146 w =>
  pv prog (oPick t_142 (.bool true) t_146) w fun t_147 w =>
  cd t_147 (
    K (.bool false) w) <|
  dr w fun w =>
  pv prog (oNil b_p0) w fun t_148 w =>
  pvv prog (Instr.fieldAt 100 t_148 0) w fun t_149 w =>
  pvv prog (Instr.indexAt 142 t_125 (.int .i64 1)) w fun t_150 w =>
  pvv prog (Instr.indexAt 142 t_125 (.int .i64 2)) w fun t_151 w =>
  pvv prog (Instr.fieldAt 41 r_0 1) w fun t_152 w =>
  pvv prog (Instr.indexAt 142 t_125 (.int .i64 0)) w fun t_153 w =>
  bindS (vN (Instr.loadAt 98 t_149)) fun m_155 => ldv prog (Instr.loadAt 98 t_149) w fun t_154 w =>
  bindS (vN (Instr.loadAt 54 o_37)) fun m_157 => ldv prog (Instr.loadAt 54 o_37) w fun t_156 w =>
  bindS (vN (Instr.loadAt 3 t_150)) fun m_159 => ldv prog (Instr.loadAt 3 t_150) w fun t_158 w =>
  bindS (vN (Instr.loadAt 3 t_151)) fun m_161 => ldv prog (Instr.loadAt 3 t_151) w fun t_160 w =>
  pvv prog (Instr.build 102 #[(0, t_158), (1, t_160)]) w fun t_162 w =>
  bindS (vN (Instr.loadAt 28 h_58)) fun m_164 => ldv prog (Instr.loadAt 28 h_58) w fun t_163 w =>
  bindS (vN (Instr.loadAt 39 t_152)) fun m_166 => ldv prog (Instr.loadAt 39 t_152) w fun t_165 w =>
  pvv prog (Instr.indexAt 39 t_165 (.int .i64 1)) w fun t_167 w =>
  bindS (vN (Instr.loadAt 9 t_167)) fun m_169 => ldv prog (Instr.loadAt 9 t_167) w fun t_168 w =>
  bindS (vN (Instr.loadAt 3 t_153)) fun m_171 => ldv prog (Instr.loadAt 3 t_153) w fun t_170 w =>
  pvv prog (Instr.build 105 #[(0, t_162), (1, t_163), (2, t_168), (3, t_170), (4, (.slice none 0 0))]) w fun t_172 w =>
  efu prog (Instr.mapUpdate 98 t_154 t_156 t_172) w fun u_173 w =>
  K (.bool true) w))
theorem B44_eq (b_p0 r_p1 : Value) (w : World) (K : Value → World → Prop) : denFn prog Tryz.f44 T44 [b_p0, r_p1] w K = B44 b_p0 r_p1 w K := by kernel_rfl
theorem c44 {b_p0 r_p1 : Value} {w : World} {K : Value → World → Prop} (h : B44 b_p0 r_p1 w K) : Calls prog 44 #[b_p0, r_p1] w (Ret K) :=
  denFn_calls Tryz.func44 T44_ok (Eq.mpr (B44_eq b_p0 r_p1 w K) h)

-- 103 internal/strconv.ParseUint
def T103 : Ann := (.seq .none (.seq (.seq .none (.seq (.seq .none .none) .none)) (.seq .none (.seq .none (.meet 75557863725914306642115 [0, 1] (.block (.seq .none (.seq .none (.seq .none (.seq (.seq .none (.seq .none (.seq (.block (.seq .none (.seq (.seq .none .none) (.seq .none (.seq (.seq .none .none) (.seq .none (.seq (.seq .none .none) (.seq .none .none)))))))) .none))) (.seq .none .none)))))) (.meet 38610068363942219267178692 [2] (.seq .none (.seq .none (.seq .none (.seq (.seq .none .none) .none)))) (.seq .none (.meet 19768355002338416264795390976 [10] (.seq .none (.block (.seq .none (.seq .none (.seq .none (.seq .none .none)))))) (.seq .none (.seq .none (.seq .none (.seq (.seq .none (.block (.loop 23384026197294446688723656123004069511501514518720 [12, 13, 101] (.seq .none (.seq (.seq .none .none) (.meet 11692013098647223335488273859904428945273834942656 [12, 13] (.block (.seq .none (.seq .none (.meet 21778071442375242454352634027738663030976 [12, 16] (.block (.seq .none (.seq (.seq .none .none) (.seq .none (.seq .none (.seq .none (.seq .none (.seq .none .none)))))))) (.seq (.seq .none (.seq (.seq .none .none) .none)) (.seq (.seq .none (.seq (.seq .none .none) .none)) (.seq .none (.seq .none (.seq (.seq .none (.seq (.seq .none .none) .none)) .none))))))))) .none)))))) (.seq (.seq .none (.seq (.seq .none .none) .none)) (.seq .none .none))))))))))))))
theorem T103_ok : chkFn prog Tryz.f103 T103 = true := by kernel_rfl
def B103 (s_p0 base_p1 bitSize_p2 : Value) (w : World) (K : Value → World → Prop) : Prop :=
  pvv prog (oEq .eql 9 (.tmp 18) (.const (.string ⟨#[]⟩)) s_p0 (.string ⟨#[]⟩)) w fun t_0 w =>
  cd t_0 (
    pvv prog (Instr.makeInterface 203 (.int .i64 2)) w fun t_1 w =>
    K (.tuple #[(.int .u64 0), t_1]) w) <|
  pvv prog (oEq .eql 3 (.tmp 21) (.const (.int .i64 0)) base_p1 (.int .i64 0)) w fun t_2 w =>
  jn (fun σ w => pop σ fun s_3 σ => pop σ fun base_4 σ => fin σ <|
    jn (fun σ w => pop σ fun bitSize_5 σ => fin σ <|
      jn (fun σ w => pop σ fun cutoff_6 σ => fin σ <|
        pvv prog (convert 3 80 bitSize_5) w fun t_7 w =>
        pvv prog (binOp .shl 79 (.int .u64 1) t_7) w fun t_8 w =>
        pvv prog (binOp .sub 79 t_8 (.int .u64 1)) w fun t_9 w =>
        efv prog (convert 9 22 s_3) w fun t_10 w =>
        pv prog (oBi .len #[22] 3 #[false] #[t_10]) w fun t_11 w =>
        lp (fun σ w again_15 => pop σ fun underscores_12 σ => pop σ fun n_13 σ => pop σ fun t_14 σ => fin σ <|
          pvv prog (binOp .lss 3 t_14 t_11) w fun t_16 w =>
          cd t_16 (
            jn (fun σ w => pop σ fun underscores_17 σ => pop σ fun n_18 σ => fin σ <|
              pvv prog (binOp .add 3 t_14 (.int .i64 1)) w fun t_19 w =>
              again_15 [underscores_17, n_18, t_19] w) fun k_20 =>
            pvv prog (Instr.indexAt 22 t_10 t_14) w fun t_21 w =>
            ldv prog (Instr.loadAt 5 t_21) w fun t_22 w =>
            jn (fun σ w => pop σ fun underscores_23 σ => pop σ fun d_24 σ => fin σ <|
              pvv prog (convert 3 5 base_4) w fun t_25 w =>
              pvv prog (binOp .geq 5 d_24 t_25) w fun t_26 w =>
              cd t_26 (
                pvv prog (Instr.makeInterface 203 (.int .i64 2)) w fun t_27 w =>
                K (.tuple #[(.int .u64 0), t_27]) w) <|
              pvv prog (binOp .geq 79 n_13 cutoff_6) w fun t_28 w =>
              cd t_28 (
                pvv prog (Instr.makeInterface 203 (.int .i64 1)) w fun t_29 w =>
                K (.tuple #[t_9, t_29]) w) <|
              pvv prog (convert 3 79 base_4) w fun t_30 w =>
              pvv prog (binOp .mul 79 n_13 t_30) w fun t_31 w =>
              pvv prog (convert 5 79 d_24) w fun t_32 w =>
              pvv prog (binOp .add 79 t_31 t_32) w fun t_33 w =>
              pvv prog (binOp .lss 79 t_33 t_31) w fun t_34 w =>
              gate (some (t_34, false)) (fun K => K t_33 w) w fun t_35 w =>
              gate (some (t_34, false)) (fun K => K t_9 w) w fun t_36 w =>
              gate (some (t_34, false)) (fun K => pvv prog (binOp .gtr 79 t_35 t_36) w K) w fun t_37 w =>
              pv prog (oPick t_34 (.bool true) t_37) w fun t_38 w =>
              cd t_38 (
                pvv prog (Instr.makeInterface 203 (.int .i64 1)) w fun t_39 w =>
                K (.tuple #[t_9, t_39]) w) <|
              k_20 [underscores_23, t_33] w) fun k_40 =>
            pvv prog (oEq .eql 5 (.tmp 107) (.const (.int .u8 95)) t_22 (.int .u8 95)) w fun t_41 w =>
            gate (some (t_41, true)) (fun K => K t_2 w) w fun t_42 w =>
            pv prog (oPick t_41 t_42 (.bool false)) w fun t_43 w =>
            cd t_43 (
              k_20 [(.bool true), n_13] w) <|
            pvv prog (binOp .leq 5 (.int .u8 48) t_22) w fun t_44 w =>
            gate (some (t_44, true)) (fun K => K t_22 w) w fun t_45 w =>
            gate (some (t_44, true)) (fun K => pvv prog (binOp .leq 5 t_45 (.int .u8 57)) w K) w fun t_46 w =>
            pv prog (oPick t_44 t_46 (.bool false)) w fun t_47 w =>
            cd t_47 (
              pvv prog (binOp .sub 5 t_22 (.int .u8 48)) w fun t_48 w =>
              k_40 [underscores_12, t_48] w) <|
            Calls prog 128 #[t_22] w (Ret fun t_49 w =>
            pvv prog (binOp .leq 5 (.int .u8 97) t_49) w fun t_50 w =>
            gate (some (t_50, true)) (fun K => K t_22 w) w fun t_51 w =>
            gate (some (t_50, true)) (fun K => Calls prog 128 #[t_51] w (Ret K)) w fun t_52 w =>
            gate (some (t_50, true)) (fun K => pvv prog (binOp .leq 5 t_52 (.int .u8 122)) w K) w fun t_53 w =>
            pv prog (oPick t_50 t_53 (.bool false)) w fun t_54 w =>
            cd t_54 (
              Calls prog 128 #[t_22] w (Ret fun t_55 w =>
              pvv prog (binOp .sub 5 t_55 (.int .u8 97)) w fun t_56 w =>
              pvv prog (binOp .add 5 t_56 (.int .u8 10)) w fun t_57 w =>
              k_40 [underscores_12, t_57] w)) <|
            pvv prog (Instr.makeInterface 203 (.int .i64 2)) w fun t_58 w =>
            K (.tuple #[(.int .u64 0), t_58]) w)) <|
          gate (some (underscores_12, true)) (fun K => K s_p0 w) w fun t_59 w =>
          gate (some (underscores_12, true)) (fun K => Calls prog 129 #[t_59] w (Ret K)) w fun t_60 w =>
          gate (some (underscores_12, true)) (fun K => pvv prog (Op.unary .not t_60) w K) w fun t_61 w =>
          pv prog (oPick underscores_12 t_61 (.bool false)) w fun t_62 w =>
          cd t_62 (
            pvv prog (Instr.makeInterface 203 (.int .i64 2)) w fun t_63 w =>
            K (.tuple #[(.int .u64 0), t_63]) w) <|
          K (.tuple #[n_13, .nilIface]) w) [(.bool false), (.int .u64 0), (.int .i64 0)] w) fun k_64 =>
      pvv prog (oEq .eql 3 (.tmp 85) (.const (.int .i64 10)) base_4 (.int .i64 10)) w fun t_65 w =>
      cd t_65 (
        k_64 [(.int .u64 1844674407370955162)] w) <|
      pvv prog (oEq .eql 3 (.tmp 85) (.const (.int .i64 16)) base_4 (.int .i64 16)) w fun t_66 w =>
      cd t_66 (
        k_64 [(.int .u64 1152921504606846976)] w) <|
      pvv prog (convert 3 79 base_4) w fun t_67 w =>
      pvv prog (binOp .quo 79 (.int .u64 18446744073709551615) t_67) w fun t_68 w =>
      pvv prog (binOp .add 79 t_68 (.int .u64 1)) w fun t_69 w =>
      k_64 [t_69] w) fun k_70 =>
    pvv prog (oEq .eql 3 (.tmp 76) (.const (.int .i64 0)) bitSize_p2 (.int .i64 0)) w fun t_71 w =>
    cd t_71 (
      k_70 [(.int .i64 64)] w) <|
    pvv prog (binOp .lss 3 bitSize_p2 (.int .i64 0)) w fun t_72 w =>
    gate (some (t_72, false)) (fun K => K bitSize_p2 w) w fun t_73 w =>
    gate (some (t_72, false)) (fun K => pvv prog (binOp .gtr 3 t_73 (.int .i64 64)) w K) w fun t_74 w =>
    pv prog (oPick t_72 (.bool true) t_74) w fun t_75 w =>
    cd t_75 (
      pvv prog (Instr.makeInterface 203 (.int .i64 4)) w fun t_76 w =>
      K (.tuple #[(.int .u64 0), t_76]) w) <|
    k_70 [bitSize_p2] w) fun k_77 =>
  pvv prog (binOp .leq 3 (.int .i64 2) base_p1) w fun t_78 w =>
  gate (some (t_78, true)) (fun K => K base_p1 w) w fun t_79 w =>
  gate (some (t_78, true)) (fun K => pvv prog (binOp .leq 3 t_79 (.int .i64 36)) w K) w fun t_80 w =>
  pv prog (oPick t_78 t_80 (.bool false)) w fun t_81 w =>
  cd t_81 (
    k_77 [s_p0, base_p1] w) <|
  pvv prog (oEq .eql 3 (.tmp 33) (.const (.int .i64 0)) base_p1 (.int .i64 0)) w fun t_82 w =>
  cd t_82 (
    pvv prog (Instr.index 9 s_p0 (.int .i64 0)) w fun t_83 w =>
    pvv prog (oEq .eql 5 (.tmp 36) (.const (.int .u8 48)) t_83 (.int .u8 48)) w fun t_84 w =>
    cd t_84 (
      pv prog (oBi .len #[9] 3 #[false] #[s_p0]) w fun t_85 w =>
      pvv prog (binOp .geq 3 t_85 (.int .i64 3)) w fun t_86 w =>
      gate (some (t_86, true)) (fun K => K s_p0 w) w fun t_87 w =>
      gate (some (t_86, true)) (fun K => pvv prog (Instr.index 9 t_87 (.int .i64 1)) w K) w fun t_88 w =>
      gate (some (t_86, true)) (fun K => Calls prog 128 #[t_88] w (Ret K)) w fun t_89 w =>
      gate (some (t_86, true)) (fun K => pvv prog (oEq .eql 5 (.tmp 47) (.const (.int .u8 98)) t_89 (.int .u8 98)) w K) w fun t_90 w =>
      pv prog (oPick t_86 t_90 (.bool false)) w fun t_91 w =>
      cd t_91 (
        pvv prog (Instr.sliceAt 9 s_p0 (some (.int .i64 2)) none none) w fun t_92 w =>
        k_77 [t_92, (.int .i64 2)] w) <|
      pv prog (oBi .len #[9] 3 #[false] #[s_p0]) w fun t_93 w =>
      pvv prog (binOp .geq 3 t_93 (.int .i64 3)) w fun t_94 w =>
      gate (some (t_94, true)) (fun K => K s_p0 w) w fun t_95 w =>
      gate (some (t_94, true)) (fun K => pvv prog (Instr.index 9 t_95 (.int .i64 1)) w K) w fun t_96 w =>
      gate (some (t_94, true)) (fun K => Calls prog 128 #[t_96] w (Ret K)) w fun t_97 w =>
      gate (some (t_94, true)) (fun K => pvv prog (oEq .eql 5 (.tmp 59) (.const (.int .u8 111)) t_97 (.int .u8 111)) w K) w fun t_98 w =>
      pv prog (oPick t_94 t_98 (.bool false)) w fun t_99 w =>
      cd t_99 (
        pvv prog (Instr.sliceAt 9 s_p0 (some (.int .i64 2)) none none) w fun t_100 w =>
        k_77 [t_100, (.int .i64 8)] w) <|
      pv prog (oBi .len #[9] 3 #[false] #[s_p0]) w fun t_101 w =>
      pvv prog (binOp .geq 3 t_101 (.int .i64 3)) w fun t_102 w =>
      gate (some (t_102, true)) (fun K => K s_p0 w) w fun t_103 w =>
      gate (some (t_102, true)) (fun K => pvv prog (Instr.index 9 t_103 (.int .i64 1)) w K) w fun t_104 w =>
      gate (some (t_102, true)) (fun K => Calls prog 128 #[t_104] w (Ret K)) w fun t_105 w =>
      gate (some (t_102, true)) (fun K => pvv prog (oEq .eql 5 (.tmp 71) (.const (.int .u8 120)) t_105 (.int .u8 120)) w K) w fun t_106 w =>
      pv prog (oPick t_102 t_106 (.bool false)) w fun t_107 w =>
      cd t_107 (
        pvv prog (Instr.sliceAt 9 s_p0 (some (.int .i64 2)) none none) w fun t_108 w =>
        k_77 [t_108, (.int .i64 16)] w) <|
      pvv prog (Instr.sliceAt 9 s_p0 (some (.int .i64 1)) none none) w fun t_109 w =>
      k_77 [t_109, (.int .i64 8)] w) <|
    k_77 [s_p0, (.int .i64 10)] w) <|
  pvv prog (Instr.makeInterface 203 (.int .i64 3)) w fun t_110 w =>
  K (.tuple #[(.int .u64 0), t_110]) w
theorem B103_eq (s_p0 base_p1 bitSize_p2 : Value) (w : World) (K : Value → World → Prop) : denFn prog Tryz.f103 T103 [s_p0, base_p1, bitSize_p2] w K = B103 s_p0 base_p1 bitSize_p2 w K := by kernel_rfl
theorem c103 {s_p0 base_p1 bitSize_p2 : Value} {w : World} {K : Value → World → Prop} (h : B103 s_p0 base_p1 bitSize_p2 w K) : Calls prog 103 #[s_p0, base_p1, bitSize_p2] w (Ret K) :=
  denFn_calls Tryz.func103 T103_ok (Eq.mpr (B103_eq s_p0 base_p1 bitSize_p2 w K) h)

-- 129 internal/strconv.underscoreOK
def T129 : Ann := (.seq .none (.seq .none (.seq .none (.meet 2097089 [0] (.seq .none (.seq .none .none)) (.seq .none (.meet 2251799811588152 [3, 4, 5] (.seq .none (.seq (.seq .none (.seq .none .none)) .none)) (.seq (.block (.loop 4951760157139269299782811676 [3, 4] (.seq (.seq .none (.seq .none .none)) (.meet 4951760156997405911520641036 [3] (.block (.seq (.seq .none (.seq (.seq .none .none) .none)) (.seq (.seq .none (.seq (.seq (.seq .none (.seq (.seq .none .none) .none)) (.seq .none .none)) .none)) (.seq (.seq .none (.seq (.seq .none .none) .none)) .none)))) .none)))) (.seq .none .none))))))))
theorem T129_ok : chkFn prog Tryz.f129 T129 = true := by kernel_rfl
def B129 (s_p0 : Value) (w : World) (K : Value → World → Prop) : Prop :=
  jn (fun σ w => pop σ fun s_0 σ => fin σ <|
    jn (fun σ w => pop σ fun saw_1 σ => pop σ fun i_2 σ => pop σ fun hex_3 σ => fin σ <|
      lp (fun σ w again_6 => pop σ fun saw_4 σ => pop σ fun i_5 σ => fin σ <|
        pv prog (oBi .len #[9] 3 #[false] #[s_0]) w fun t_7 w =>
        pvv prog (binOp .lss 3 i_5 t_7) w fun t_8 w =>
        cd t_8 (
          jn (fun σ w => pop σ fun saw_9 σ => fin σ <|
            pvv prog (binOp .add 3 i_5 (.int .i64 1)) w fun t_10 w =>
            again_6 [saw_9, t_10] w) fun k_11 =>
          pvv prog (Instr.index 9 s_0 i_5) w fun t_12 w =>
          pvv prog (binOp .leq 5 (.int .u8 48) t_12) w fun t_13 w =>
          gate (some (t_13, true)) (fun K => K s_0 w) w fun t_14 w =>
          gate (some (t_13, true)) (fun K => K i_5 w) w fun t_15 w =>
          gate (some (t_13, true)) (fun K => pvv prog (Instr.index 9 t_14 t_15) w K) w fun t_16 w =>
          gate (some (t_13, true)) (fun K => pvv prog (binOp .leq 5 t_16 (.int .u8 57)) w K) w fun t_17 w =>
          pv prog (oPick t_13 t_17 (.bool false)) w fun t_18 w =>
          gate (some (t_18, false)) (fun K => K hex_3 w) w fun t_19 w =>
          gate (some (t_18, false)) (fun K => K t_19 w) w fun t_20 w =>
          gate (some (t_20, true)) (fun K => K s_0 w) w fun t_21 w =>
          gate (some (t_20, true)) (fun K => K i_5 w) w fun t_22 w =>
          gate (some (t_20, true)) (fun K => pvv prog (Instr.index 9 t_21 t_22) w K) w fun t_23 w =>
          gate (some (t_20, true)) (fun K => Calls prog 128 #[t_23] w (Ret K)) w fun t_24 w =>
          gate (some (t_20, true)) (fun K => pvv prog (binOp .leq 5 (.int .u8 97) t_24) w K) w fun t_25 w =>
          gate (some (t_18, false)) (fun K => pv prog (oPick t_20 t_25 (.bool false)) w K) w fun t_26 w =>
          gate (some (t_18, false)) (fun K => K t_26 w) w fun t_27 w =>
          gate (some (t_27, true)) (fun K => K s_0 w) w fun t_28 w =>
          gate (some (t_27, true)) (fun K => K i_5 w) w fun t_29 w =>
          gate (some (t_27, true)) (fun K => pvv prog (Instr.index 9 t_28 t_29) w K) w fun t_30 w =>
          gate (some (t_27, true)) (fun K => Calls prog 128 #[t_30] w (Ret K)) w fun t_31 w =>
          gate (some (t_27, true)) (fun K => pvv prog (binOp .leq 5 t_31 (.int .u8 102)) w K) w fun t_32 w =>
          gate (some (t_18, false)) (fun K => pv prog (oPick t_27 t_32 (.bool false)) w K) w fun t_33 w =>
          pv prog (oPick t_18 (.bool true) t_33) w fun t_34 w =>
          cd t_34 (
            k_11 [(.int .i32 48)] w) <|
          pvv prog (Instr.index 9 s_0 i_5) w fun t_35 w =>
          pvv prog (oEq .eql 5 (.tmp 86) (.const (.int .u8 95)) t_35 (.int .u8 95)) w fun t_36 w =>
          cd t_36 (
            pvv prog (oEq .neq 21 (.tmp 88) (.const (.int .i32 48)) saw_4 (.int .i32 48)) w fun t_37 w =>
            cd t_37 (
              K (.bool false) w) <|
            k_11 [(.int .i32 95)] w) <|
          pvv prog (oEq .eql 21 (.tmp 90) (.const (.int .i32 95)) saw_4 (.int .i32 95)) w fun t_38 w =>
          cd t_38 (
            K (.bool false) w) <|
          k_11 [(.int .i32 33)] w) <|
        pvv prog (oEq .neq 21 (.tmp 92) (.const (.int .i32 95)) saw_4 (.int .i32 95)) w fun t_39 w =>
        K t_39 w) [saw_1, i_2] w) fun k_40 =>
    pv prog (oBi .len #[9] 3 #[false] #[s_0]) w fun t_41 w =>
    pvv prog (binOp .geq 3 t_41 (.int .i64 2)) w fun t_42 w =>
    gate (some (t_42, true)) (fun K => K s_0 w) w fun t_43 w =>
    gate (some (t_42, true)) (fun K => pvv prog (Instr.index 9 t_43 (.int .i64 0)) w K) w fun t_44 w =>
    gate (some (t_42, true)) (fun K => pvv prog (oEq .eql 5 (.tmp 26) (.const (.int .u8 48)) t_44 (.int .u8 48)) w K) w fun t_45 w =>
    pv prog (oPick t_42 t_45 (.bool false)) w fun t_46 w =>
    gate (some (t_46, true)) (fun K => K s_0 w) w fun t_47 w =>
    gate (some (t_46, true)) (fun K => pvv prog (Instr.index 9 t_47 (.int .i64 1)) w K) w fun t_48 w =>
    gate (some (t_46, true)) (fun K => Calls prog 128 #[t_48] w (Ret K)) w fun t_49 w =>
    gate (some (t_46, true)) (fun K => pvv prog (oEq .eql 5 (.tmp 32) (.const (.int .u8 98)) t_49 (.int .u8 98)) w K) w fun t_50 w =>
    gate (some (t_46, true)) (fun K => K t_50 w) w fun t_51 w =>
    gate (some (t_51, false)) (fun K => K s_0 w) w fun t_52 w =>
    gate (some (t_51, false)) (fun K => pvv prog (Instr.index 9 t_52 (.int .i64 1)) w K) w fun t_53 w =>
    gate (some (t_51, false)) (fun K => Calls prog 128 #[t_53] w (Ret K)) w fun t_54 w =>
    gate (some (t_51, false)) (fun K => pvv prog (oEq .eql 5 (.tmp 37) (.const (.int .u8 111)) t_54 (.int .u8 111)) w K) w fun t_55 w =>
    gate (some (t_46, true)) (fun K => pv prog (oPick t_51 (.bool true) t_55) w K) w fun t_56 w =>
    gate (some (t_46, true)) (fun K => K t_56 w) w fun t_57 w =>
    gate (some (t_57, false)) (fun K => K s_0 w) w fun t_58 w =>
    gate (some (t_57, false)) (fun K => pvv prog (Instr.index 9 t_58 (.int .i64 1)) w K) w fun t_59 w =>
    gate (some (t_57, false)) (fun K => Calls prog 128 #[t_59] w (Ret K)) w fun t_60 w =>
    gate (some (t_57, false)) (fun K => pvv prog (oEq .eql 5 (.tmp 43) (.const (.int .u8 120)) t_60 (.int .u8 120)) w K) w fun t_61 w =>
    gate (some (t_46, true)) (fun K => pv prog (oPick t_57 (.bool true) t_61) w K) w fun t_62 w =>
    pv prog (oPick t_46 t_62 (.bool false)) w fun t_63 w =>
    cd t_63 (
      pvv prog (Instr.index 9 s_0 (.int .i64 1)) w fun t_64 w =>
      Calls prog 128 #[t_64] w (Ret fun t_65 w =>
      pvv prog (oEq .eql 5 (.tmp 49) (.const (.int .u8 120)) t_65 (.int .u8 120)) w fun t_66 w =>
      k_40 [(.int .i32 48), (.int .i64 2), t_66] w)) <|
    k_40 [(.int .i32 94), (.int .i64 0), (.bool false)] w) fun k_67 =>
  pv prog (oBi .len #[9] 3 #[false] #[s_p0]) w fun t_68 w =>
  pvv prog (binOp .geq 3 t_68 (.int .i64 1)) w fun t_69 w =>
  gate (some (t_69, true)) (fun K => K s_p0 w) w fun t_70 w =>
  gate (some (t_69, true)) (fun K => pvv prog (Instr.index 9 t_70 (.int .i64 0)) w K) w fun t_71 w =>
  gate (some (t_69, true)) (fun K => pvv prog (oEq .eql 5 (.tmp 11) (.const (.int .u8 45)) t_71 (.int .u8 45)) w K) w fun t_72 w =>
  gate (some (t_69, true)) (fun K => K t_72 w) w fun t_73 w =>
  gate (some (t_73, false)) (fun K => K s_p0 w) w fun t_74 w =>
  gate (some (t_73, false)) (fun K => pvv prog (Instr.index 9 t_74 (.int .i64 0)) w K) w fun t_75 w =>
  gate (some (t_73, false)) (fun K => pvv prog (oEq .eql 5 (.tmp 15) (.const (.int .u8 43)) t_75 (.int .u8 43)) w K) w fun t_76 w =>
  gate (some (t_69, true)) (fun K => pv prog (oPick t_73 (.bool true) t_76) w K) w fun t_77 w =>
  pv prog (oPick t_69 t_77 (.bool false)) w fun t_78 w =>
  cd t_78 (
    pvv prog (Instr.sliceAt 9 s_p0 (some (.int .i64 1)) none none) w fun t_79 w =>
    k_67 [t_79] w) <|
  k_67 [s_p0] w
theorem B129_eq (s_p0 : Value) (w : World) (K : Value → World → Prop) : denFn prog Tryz.f129 T129 [s_p0] w K = B129 s_p0 w K := by kernel_rfl
theorem c129 {s_p0 : Value} {w : World} {K : Value → World → Prop} (h : B129 s_p0 w K) : Calls prog 129 #[s_p0] w (Ret K) :=
  denFn_calls Tryz.func129 T129_ok (Eq.mpr (B129_eq s_p0 w K) h)

-- 63 slices.pdqsortCmpFunc[holdfast/api.Row]
def T63 : Ann := (.seq .none (.seq .none (.block (.loop 356811923176489970264571492362373784095685646 [1, 2, 3, 10, 11] (.block (.seq .none (.seq (.seq .none (.seq (.seq .none .none) .none)) (.seq (.seq .none (.seq (.seq .none .none) .none)) (.meet 140462610448392 [3] (.seq .none (.seq (.seq .none .none) .none)) (.seq .none (.meet 295111876382333886464 [13, 14] (.seq .none (.seq (.seq .none (.seq .none .none)) .none)) (.meet 2417556491324078996586496 [] (.seq .none (.seq (.seq .none (.seq .none .none)) .none)) (.seq (.seq (.draw [.op 0 .pure, .op 1 .pure, .op 2 .pure, .op 3 .pure, .op 4 .pure, .op 5 .pure, .op 6 .pure, .op 7 .pure, .op 9 .pure, .op 10 .pure, .op 11 .pure, .op 8 .load, .op 12 .load, .op 13 .eff, .op 14 .pure, .op 15 .pure, .op 16 .pure]) (.seq (.seq .none (.seq .none .none)) .none)) (.seq .none (.seq .none (.seq .none (.seq .none (.seq .none (.seq (.seq .none (.seq .none .none)) (.seq .none (.seq .none .none)))))))))))))))))))))
theorem T63_ok : chkFn prog Tryz.f63 T63 = true := by kernel_rfl
def B63 (data_p0 a_p1 b_p2 limit_p3 cmp_p4 : Value) (w : World) (K : Value → World → Prop) : Prop :=
  lp (fun σ w again_5 => pop σ fun a_0 σ => pop σ fun b_1 σ => pop σ fun limit_2 σ => pop σ fun wasBalanced_3 σ => pop σ fun wasPartitioned_4 σ => fin σ <|
    pvv prog (binOp .sub 3 b_1 a_0) w fun t_6 w =>
    pvv prog (binOp .leq 3 t_6 (.int .i64 12)) w fun t_7 w =>
    cd t_7 (
      Calls prog 80 #[data_p0, a_0, b_1, cmp_p4] w (Ret fun t_8 w =>
      K (.tuple #[]) w)) <|
    pvv prog (oEq .eql 3 (.tmp 31) (.const (.int .i64 0)) limit_2 (.int .i64 0)) w fun t_9 w =>
    cd t_9 (
      Calls prog 81 #[data_p0, a_0, b_1, cmp_p4] w (Ret fun t_10 w =>
      K (.tuple #[]) w)) <|
    jn (fun σ w => pop σ fun limit_11 σ => fin σ <|
      Calls prog 83 #[data_p0, a_0, b_1, cmp_p4] w (Ret fun t_12 w =>
      pvv prog (Instr.extract t_12 0) w fun t_13 w =>
      pvv prog (Instr.extract t_12 1) w fun t_14 w =>
      jn (fun σ w => pop σ fun pivot_15 σ => pop σ fun hint_16 σ => fin σ <|
        jn (fun σ w => fin σ <|
          dr w fun w =>
          pvv prog (binOp .gtr 3 a_0 (.int .i64 0)) w fun t_17 w =>
          gate (some (t_17, true)) (fun K => K cmp_p4 w) w fun t_18 w =>
          gate (some (t_17, true)) (fun K => K data_p0 w) w fun t_19 w =>
          gate (some (t_17, true)) (fun K => K a_0 w) w fun t_20 w =>
          gate (some (t_17, true)) (fun K => pvv prog (binOp .sub 3 t_20 (.int .i64 1)) w K) w fun t_21 w =>
          gate (some (t_17, true)) (fun K => pvv prog (Instr.indexAt 37 t_19 t_21) w K) w fun t_22 w =>
          gate (some (t_17, true)) (fun K => K data_p0 w) w fun t_23 w =>
          gate (some (t_17, true)) (fun K => K pivot_15 w) w fun t_24 w =>
          gate (some (t_17, true)) (fun K => pvv prog (Instr.indexAt 37 t_23 t_24) w K) w fun t_25 w =>
          bindS (vN (Instr.loadAt 41 t_22)) fun m_27 => gate (some (t_17, true)) (fun K => ldv prog (Instr.loadAt 41 t_22) w K) w fun t_26 w =>
          bindS (vN (Instr.loadAt 41 t_25)) fun m_29 => gate (some (t_17, true)) (fun K => ldv prog (Instr.loadAt 41 t_25) w K) w fun t_28 w =>
          gate (some (t_17, true)) (fun K => ef prog (oCall t_18 #[t_26, t_28]) w fun s_48 w => K s_48 w) w fun t_30 w =>
          gate (some (t_17, true)) (fun K => pvv prog (binOp .lss 3 t_30 (.int .i64 0)) w K) w fun t_31 w =>
          gate (some (t_17, true)) (fun K => pvv prog (Op.unary .not t_31) w K) w fun t_32 w =>
          pv prog (oPick t_17 t_32 (.bool false)) w fun t_33 w =>
          cd t_33 (
            Calls prog 86 #[data_p0, a_0, b_1, pivot_15, cmp_p4] w (Ret fun t_34 w =>
            again_5 [t_34, b_1, limit_11, wasBalanced_3, wasPartitioned_4] w)) <|
          Calls prog 87 #[data_p0, a_0, b_1, pivot_15, cmp_p4] w (Ret fun t_35 w =>
          pvv prog (Instr.extract t_35 0) w fun t_36 w =>
          pvv prog (Instr.extract t_35 1) w fun t_37 w =>
          pvv prog (binOp .sub 3 t_36 a_0) w fun t_38 w =>
          pvv prog (binOp .sub 3 b_1 t_36) w fun t_39 w =>
          pvv prog (binOp .quo 3 t_6 (.int .i64 8)) w fun t_40 w =>
          pvv prog (binOp .lss 3 t_38 t_39) w fun t_41 w =>
          cd t_41 (
            pvv prog (binOp .geq 3 t_38 t_40) w fun t_42 w =>
            Calls prog 63 #[data_p0, a_0, t_36, limit_11, cmp_p4] w (Ret fun t_43 w =>
            pvv prog (binOp .add 3 t_36 (.int .i64 1)) w fun t_44 w =>
            again_5 [t_44, b_1, limit_11, t_42, t_37] w)) <|
          pvv prog (binOp .geq 3 t_39 t_40) w fun t_45 w =>
          pvv prog (binOp .add 3 t_36 (.int .i64 1)) w fun t_46 w =>
          Calls prog 63 #[data_p0, t_46, b_1, limit_11, cmp_p4] w (Ret fun t_47 w =>
          again_5 [a_0, t_36, limit_11, t_45, t_37] w))) fun k_49 =>
        gate (some (wasBalanced_3, true)) (fun K => K wasPartitioned_4 w) w fun t_50 w =>
        pv prog (oPick wasBalanced_3 t_50 (.bool false)) w fun t_51 w =>
        gate (some (t_51, true)) (fun K => K hint_16 w) w fun t_52 w =>
        gate (some (t_51, true)) (fun K => pvv prog (oEq .eql 161 (.tmp 73) (.const (.int .i64 1)) t_52 (.int .i64 1)) w K) w fun t_53 w =>
        pv prog (oPick t_51 t_53 (.bool false)) w fun t_54 w =>
        cd t_54 (
          Calls prog 85 #[data_p0, a_0, b_1, cmp_p4] w (Ret fun t_55 w =>
          cd t_55 (
            K (.tuple #[]) w) <|
          k_49 [] w)) <|
        k_49 [] w) fun k_56 =>
      pvv prog (oEq .eql 161 (.tmp 55) (.const (.int .i64 2)) t_14 (.int .i64 2)) w fun t_57 w =>
      cd t_57 (
        Calls prog 84 #[data_p0, a_0, b_1, cmp_p4] w (Ret fun t_58 w =>
        pvv prog (binOp .sub 3 b_1 (.int .i64 1)) w fun t_59 w =>
        pvv prog (binOp .sub 3 t_13 a_0) w fun t_60 w =>
        pvv prog (binOp .sub 3 t_59 t_60) w fun t_61 w =>
        k_56 [t_61, (.int .i64 1)] w)) <|
      k_56 [t_13, t_14] w)) fun k_62 =>
    pvv prog (Op.unary .not wasBalanced_3) w fun t_63 w =>
    cd t_63 (
      Calls prog 82 #[data_p0, a_0, b_1, cmp_p4] w (Ret fun t_64 w =>
      pvv prog (binOp .sub 3 limit_2 (.int .i64 1)) w fun t_65 w =>
      k_62 [t_65] w)) <|
    k_62 [limit_2] w) [a_p1, b_p2, limit_p3, (.bool true), (.bool true)] w
theorem B63_eq (data_p0 a_p1 b_p2 limit_p3 cmp_p4 : Value) (w : World) (K : Value → World → Prop) : denFn prog Tryz.f63 T63 [data_p0, a_p1, b_p2, limit_p3, cmp_p4] w K = B63 data_p0 a_p1 b_p2 limit_p3 cmp_p4 w K := by kernel_rfl
theorem c63 {data_p0 a_p1 b_p2 limit_p3 cmp_p4 : Value} {w : World} {K : Value → World → Prop} (h : B63 data_p0 a_p1 b_p2 limit_p3 cmp_p4 w K) : Calls prog 63 #[data_p0, a_p1, b_p2, limit_p3, cmp_p4] w (Ret K) :=
  denFn_calls Tryz.func63 T63_ok (Eq.mpr (B63_eq data_p0 a_p1 b_p2 limit_p3 cmp_p4 w K) h)

-- 152 unicode/utf8.decodeRuneInStringSlow
def T152 : Ann := (.seq .none (.seq .none (.seq (.seq .none (.seq (.seq .none .none) .none)) (.seq .none (.seq .none (.seq (.seq .none (.seq (.seq .none (.seq .none .none)) .none)) (.seq .none (.seq .none (.seq (.seq .none (.seq (.seq .none .none) .none)) (.seq .none (.seq (.seq .none (.seq (.seq .none .none) .none)) (.seq (.seq .none (.seq (.seq .none .none) .none)) (.seq .none (.seq (.seq .none (.seq (.seq .none .none) .none)) (.seq (.seq .none (.seq (.seq .none .none) .none)) (.seq .none (.seq (.seq .none (.seq (.seq .none .none) .none)) (.seq .none .none))))))))))))))))))
theorem T152_ok : chkFn prog Tryz.f152 T152 = true := by kernel_rfl
def B152 (s_p0 : Value) (w : World) (K : Value → World → Prop) : Prop :=
  pv prog (oBi .len #[9] 3 #[false] #[s_p0]) w fun t_0 w =>
  pvv prog (binOp .lss 3 t_0 (.int .i64 1)) w fun t_1 w =>
  cd t_1 (
    K (.tuple #[(.int .i32 65533), (.int .i64 0)]) w) <|
  pvv prog (Instr.index 9 s_p0 (.int .i64 0)) w fun t_2 w =>
  pvv prog (Instr.indexAt 245 (.pointer (some ⟨4, 0, none⟩)) t_2) w fun t_3 w =>
  ldv prog (Instr.loadAt 5 t_3) w fun t_4 w =>
  pvv prog (binOp .geq 5 t_4 (.int .u8 240)) w fun t_5 w =>
  cd t_5 (
    pvv prog (convert 5 21 t_4) w fun t_6 w =>
    pvv prog (binOp .shl 21 t_6 (.int .u64 31)) w fun t_7 w =>
    pvv prog (binOp .shr 21 t_7 (.int .u64 31)) w fun t_8 w =>
    pvv prog (Instr.index 9 s_p0 (.int .i64 0)) w fun t_9 w =>
    pvv prog (convert 5 21 t_9) w fun t_10 w =>
    pvv prog (binOp .andNot 21 t_10 t_8) w fun t_11 w =>
    pvv prog (binOp .and 21 (.int .i32 65533) t_8) w fun t_12 w =>
    pvv prog (binOp .or 21 t_11 t_12) w fun t_13 w =>
    K (.tuple #[t_13, (.int .i64 1)]) w) <|
  pvv prog (binOp .and 5 t_4 (.int .u8 7)) w fun t_14 w =>
  pvv prog (convert 5 3 t_14) w fun t_15 w =>
  pvv prog (binOp .shr 5 t_4 (.int .u64 4)) w fun t_16 w =>
  pvv prog (Instr.indexAt 248 (.pointer (some ⟨5, 0, none⟩)) t_16) w fun t_17 w =>
  ldv prog (Instr.loadAt 247 t_17) w fun t_18 w =>
  efv prog (Instr.alloc 247 true (.tuple #[])) w fun accept_19 w =>
  efu prog (Instr.storeAt 247 accept_19 t_18) w fun u_20 w =>
  pvv prog (binOp .lss 3 t_0 t_15) w fun t_21 w =>
  cd t_21 (
    K (.tuple #[(.int .i32 65533), (.int .i64 1)]) w) <|
  pvv prog (Instr.index 9 s_p0 (.int .i64 1)) w fun t_22 w =>
  pvv prog (Instr.fieldAt 247 accept_19 0) w fun t_23 w =>
  ldv prog (Instr.loadAt 5 t_23) w fun t_24 w =>
  pvv prog (binOp .lss 5 t_22 t_24) w fun t_25 w =>
  gate (some (t_25, false)) (fun K => pvv prog (Instr.fieldAt 247 accept_19 1) w K) w fun t_26 w =>
  gate (some (t_25, false)) (fun K => ldv prog (Instr.loadAt 5 t_26) w K) w fun t_27 w =>
  gate (some (t_25, false)) (fun K => K t_22 w) w fun t_28 w =>
  gate (some (t_25, false)) (fun K => pvv prog (binOp .lss 5 t_27 t_28) w K) w fun t_29 w =>
  pv prog (oPick t_25 (.bool true) t_29) w fun t_30 w =>
  cd t_30 (
    K (.tuple #[(.int .i32 65533), (.int .i64 1)]) w) <|
  pvv prog (binOp .leq 3 t_15 (.int .i64 2)) w fun t_31 w =>
  cd t_31 (
    pvv prog (binOp .and 5 t_2 (.int .u8 31)) w fun t_32 w =>
    pvv prog (convert 5 21 t_32) w fun t_33 w =>
    pvv prog (binOp .shl 21 t_33 (.int .u64 6)) w fun t_34 w =>
    pvv prog (binOp .and 5 t_22 (.int .u8 63)) w fun t_35 w =>
    pvv prog (convert 5 21 t_35) w fun t_36 w =>
    pvv prog (binOp .or 21 t_34 t_36) w fun t_37 w =>
    K (.tuple #[t_37, (.int .i64 2)]) w) <|
  pvv prog (Instr.index 9 s_p0 (.int .i64 2)) w fun t_38 w =>
  pvv prog (binOp .lss 5 t_38 (.int .u8 128)) w fun t_39 w =>
  gate (some (t_39, false)) (fun K => K t_38 w) w fun t_40 w =>
  gate (some (t_39, false)) (fun K => pvv prog (binOp .lss 5 (.int .u8 191) t_40) w K) w fun t_41 w =>
  pv prog (oPick t_39 (.bool true) t_41) w fun t_42 w =>
  cd t_42 (
    K (.tuple #[(.int .i32 65533), (.int .i64 1)]) w) <|
  pvv prog (binOp .leq 3 t_15 (.int .i64 3)) w fun t_43 w =>
  cd t_43 (
    pvv prog (binOp .and 5 t_2 (.int .u8 15)) w fun t_44 w =>
    pvv prog (convert 5 21 t_44) w fun t_45 w =>
    pvv prog (binOp .shl 21 t_45 (.int .u64 12)) w fun t_46 w =>
    pvv prog (binOp .and 5 t_22 (.int .u8 63)) w fun t_47 w =>
    pvv prog (convert 5 21 t_47) w fun t_48 w =>
    pvv prog (binOp .shl 21 t_48 (.int .u64 6)) w fun t_49 w =>
    pvv prog (binOp .or 21 t_46 t_49) w fun t_50 w =>
    pvv prog (binOp .and 5 t_38 (.int .u8 63)) w fun t_51 w =>
    pvv prog (convert 5 21 t_51) w fun t_52 w =>
    pvv prog (binOp .or 21 t_50 t_52) w fun t_53 w =>
    K (.tuple #[t_53, (.int .i64 3)]) w) <|
  pvv prog (Instr.index 9 s_p0 (.int .i64 3)) w fun t_54 w =>
  pvv prog (binOp .lss 5 t_54 (.int .u8 128)) w fun t_55 w =>
  gate (some (t_55, false)) (fun K => K t_54 w) w fun t_56 w =>
  gate (some (t_55, false)) (fun K => pvv prog (binOp .lss 5 (.int .u8 191) t_56) w K) w fun t_57 w =>
  pv prog (oPick t_55 (.bool true) t_57) w fun t_58 w =>
  cd t_58 (
    K (.tuple #[(.int .i32 65533), (.int .i64 1)]) w) <|
  pvv prog (binOp .and 5 t_2 (.int .u8 7)) w fun t_59 w =>
  pvv prog (convert 5 21 t_59) w fun t_60 w =>
  pvv prog (binOp .shl 21 t_60 (.int .u64 18)) w fun t_61 w =>
  pvv prog (binOp .and 5 t_22 (.int .u8 63)) w fun t_62 w =>
  pvv prog (convert 5 21 t_62) w fun t_63 w =>
  pvv prog (binOp .shl 21 t_63 (.int .u64 12)) w fun t_64 w =>
  pvv prog (binOp .or 21 t_61 t_64) w fun t_65 w =>
  pvv prog (binOp .and 5 t_38 (.int .u8 63)) w fun t_66 w =>
  pvv prog (convert 5 21 t_66) w fun t_67 w =>
  pvv prog (binOp .shl 21 t_67 (.int .u64 6)) w fun t_68 w =>
  pvv prog (binOp .or 21 t_65 t_68) w fun t_69 w =>
  pvv prog (binOp .and 5 t_54 (.int .u8 63)) w fun t_70 w =>
  pvv prog (convert 5 21 t_70) w fun t_71 w =>
  pvv prog (binOp .or 21 t_69 t_71) w fun t_72 w =>
  K (.tuple #[t_72, (.int .i64 4)]) w
theorem B152_eq (s_p0 : Value) (w : World) (K : Value → World → Prop) : denFn prog Tryz.f152 T152 [s_p0] w K = B152 s_p0 w K := by kernel_rfl
theorem c152 {s_p0 : Value} {w : World} {K : Value → World → Prop} (h : B152 s_p0 w K) : Calls prog 152 #[s_p0] w (Ret K) :=
  denFn_calls Tryz.func152 T152_ok (Eq.mpr (B152_eq s_p0 w K) h)

-- 177 internal/bytealg.IndexRabinKarp[string]
def T177 : Ann := (.seq .none (.seq .none (.seq .none (.seq .none (.seq (.seq .none (.block (.loop 1073480448 [8, 9] (.seq (.seq .none (.seq .none .none)) (.seq (.block .none) .none))))) (.seq (.seq .none (.seq (.seq .none .none) .none)) (.seq (.seq .none (.block (.loop 2417851639227059326158096 [8, 10] (.seq (.seq .none (.seq .none .none)) (.block (.seq .none (.seq .none (.seq .none (.seq .none (.seq .none (.seq (.seq .none .none) .none))))))))))) (.seq .none .none))))))))
theorem T177_ok : chkFn prog Tryz.f177 T177 = true := by kernel_rfl
def B177 (s_p0 sep_p1 : Value) (w : World) (K : Value → World → Prop) : Prop :=
  Calls prog 190 #[sep_p1] w (Ret fun t_0 w =>
  pvv prog (Instr.extract t_0 0) w fun t_1 w =>
  pvv prog (Instr.extract t_0 1) w fun t_2 w =>
  pv prog (oBi .len #[9] 3 #[false] #[sep_p1]) w fun t_3 w =>
  lp (fun σ w again_6 => pop σ fun h_4 σ => pop σ fun i_5 σ => fin σ <|
    pvv prog (binOp .lss 3 i_5 t_3) w fun t_7 w =>
    cd t_7 (
      pvv prog (binOp .mul 74 h_4 (.int .u32 16777619)) w fun t_8 w =>
      pvv prog (Instr.index 9 s_p0 i_5) w fun t_9 w =>
      pvv prog (convert 5 74 t_9) w fun t_10 w =>
      pvv prog (binOp .add 74 t_8 t_10) w fun t_11 w =>
      pvv prog (binOp .add 3 i_5 (.int .i64 1)) w fun t_12 w =>
      again_6 [t_11, t_12] w) <|
    pvv prog (oEq .eql 74 (.tmp 30) (.tmp 31) h_4 t_1) w fun t_13 w =>
    gate (some (t_13, true)) (fun K => K s_p0 w) w fun t_14 w =>
    gate (some (t_13, true)) (fun K => K t_3 w) w fun t_15 w =>
    gate (some (t_13, true)) (fun K => pvv prog (Instr.sliceAt 9 t_14 none (some t_15) none) w K) w fun t_16 w =>
    gate (some (t_13, true)) (fun K => K sep_p1 w) w fun t_17 w =>
    gate (some (t_13, true)) (fun K => pvv prog (oEq .eql 9 (.tmp 36) (.tmp 37) t_16 t_17) w K) w fun t_18 w =>
    pv prog (oPick t_13 t_18 (.bool false)) w fun t_19 w =>
    cd t_19 (
      K (.int .i64 0) w) <|
    lp (fun σ w again_22 => pop σ fun h_20 σ => pop σ fun i_21 σ => fin σ <|
      pv prog (oBi .len #[9] 3 #[false] #[s_p0]) w fun t_23 w =>
      pvv prog (binOp .lss 3 i_21 t_23) w fun t_24 w =>
      cd t_24 (
        pvv prog (binOp .mul 74 h_20 (.int .u32 16777619)) w fun t_25 w =>
        pvv prog (Instr.index 9 s_p0 i_21) w fun t_26 w =>
        pvv prog (convert 5 74 t_26) w fun t_27 w =>
        pvv prog (binOp .add 74 t_25 t_27) w fun t_28 w =>
        pvv prog (binOp .sub 3 i_21 t_3) w fun t_29 w =>
        pvv prog (Instr.index 9 s_p0 t_29) w fun t_30 w =>
        pvv prog (convert 5 74 t_30) w fun t_31 w =>
        pvv prog (binOp .mul 74 t_2 t_31) w fun t_32 w =>
        pvv prog (binOp .sub 74 t_28 t_32) w fun t_33 w =>
        pvv prog (binOp .add 3 i_21 (.int .i64 1)) w fun t_34 w =>
        pvv prog (oEq .eql 74 (.tmp 65) (.tmp 66) t_33 t_1) w fun t_35 w =>
        gate (some (t_35, true)) (fun K => K s_p0 w) w fun t_36 w =>
        gate (some (t_35, true)) (fun K => K t_34 w) w fun t_37 w =>
        gate (some (t_35, true)) (fun K => K t_3 w) w fun t_38 w =>
        gate (some (t_35, true)) (fun K => pvv prog (binOp .sub 3 t_37 t_38) w K) w fun t_39 w =>
        gate (some (t_35, true)) (fun K => K t_34 w) w fun t_40 w =>
        gate (some (t_35, true)) (fun K => pvv prog (Instr.sliceAt 9 t_36 (some t_39) (some t_40) none) w K) w fun t_41 w =>
        gate (some (t_35, true)) (fun K => K sep_p1 w) w fun t_42 w =>
        gate (some (t_35, true)) (fun K => pvv prog (oEq .eql 9 (.tmp 74) (.tmp 75) t_41 t_42) w K) w fun t_43 w =>
        pv prog (oPick t_35 t_43 (.bool false)) w fun t_44 w =>
        cd t_44 (
          pvv prog (binOp .sub 3 t_34 t_3) w fun t_45 w =>
          K t_45 w) <|
        again_22 [t_33, t_34] w) <|
      K (.int .i64 (-1)) w) [h_4, t_3] w) [(.int .u32 0), (.int .i64 0)] w)
theorem B177_eq (s_p0 sep_p1 : Value) (w : World) (K : Value → World → Prop) : denFn prog Tryz.f177 T177 [s_p0, sep_p1] w K = B177 s_p0 sep_p1 w K := by kernel_rfl
theorem c177 {s_p0 sep_p1 : Value} {w : World} {K : Value → World → Prop} (h : B177 s_p0 sep_p1 w K) : Calls prog 177 #[s_p0, sep_p1] w (Ret K) :=
  denFn_calls Tryz.func177 T177_ok (Eq.mpr (B177_eq s_p0 sep_p1 w K) h)

-- 134 slices.insertionSortCmpFunc[holdfast/api.Owner]
def T134 : Ann := (.seq .none (.block (.loop 9007199254737664 [8] (.seq (.seq .none (.seq .none .none)) (.seq (.block (.seq .none (.block (.loop 9007199254479360 [9] (.seq (.seq (.draw [.op 0 .pure, .op 1 .pure, .op 2 .pure, .op 3 .pure, .op 4 .pure, .op 5 .pure, .op 6 .pure, .op 7 .pure, .op 9 .pure, .op 10 .pure, .op 11 .pure, .op 12 .pure, .op 8 .load, .op 13 .load, .op 14 .eff, .op 15 .pure, .op 16 .pure]) (.seq .none .none)) (.seq (.block (.draw [.op 0 .pure, .op 1 .pure, .op 2 .pure, .op 3 .pure, .op 4 .pure, .op 5 .pure, .op 6 .pure, .op 7 .pure, .op 8 .pure, .op 10 .pure, .op 11 .pure, .op 12 .pure, .op 9 .load, .op 13 .load, .op 14 .pure, .op 15 .eff, .op 16 .pure, .op 17 .eff])) .none)))))) .none)))))
theorem T134_ok : chkFn prog Tryz.f134 T134 = true := by kernel_rfl
def B134 (data_p0 a_p1 b_p2 cmp_p3 : Value) (w : World) (K : Value → World → Prop) : Prop :=
  pvv prog (binOp .add 3 a_p1 (.int .i64 1)) w fun t_0 w =>
  lp (fun σ w again_2 => pop σ fun i_1 σ => fin σ <|
    pvv prog (binOp .lss 3 i_1 b_p2) w fun t_3 w =>
    cd t_3 (
      lp (fun σ w again_5 => pop σ fun j_4 σ => fin σ <|
        dr w fun w =>
        pvv prog (binOp .gtr 3 j_4 a_p1) w fun t_6 w =>
        gate (some (t_6, true)) (fun K => K cmp_p3 w) w fun t_7 w =>
        gate (some (t_6, true)) (fun K => K data_p0 w) w fun t_8 w =>
        gate (some (t_6, true)) (fun K => K j_4 w) w fun t_9 w =>
        gate (some (t_6, true)) (fun K => pvv prog (Instr.indexAt 136 t_8 t_9) w K) w fun t_10 w =>
        gate (some (t_6, true)) (fun K => K data_p0 w) w fun t_11 w =>
        gate (some (t_6, true)) (fun K => K j_4 w) w fun t_12 w =>
        gate (some (t_6, true)) (fun K => pvv prog (binOp .sub 3 t_12 (.int .i64 1)) w K) w fun t_13 w =>
        gate (some (t_6, true)) (fun K => pvv prog (Instr.indexAt 136 t_11 t_13) w K) w fun t_14 w =>
        bindS (vN (Instr.loadAt 54 t_10)) fun m_16 => gate (some (t_6, true)) (fun K => ldv prog (Instr.loadAt 54 t_10) w K) w fun t_15 w =>
        bindS (vN (Instr.loadAt 54 t_14)) fun m_18 => gate (some (t_6, true)) (fun K => ldv prog (Instr.loadAt 54 t_14) w K) w fun t_17 w =>
        gate (some (t_6, true)) (fun K => ef prog (oCall t_7 #[t_15, t_17]) w fun s_38 w => K s_38 w) w fun t_19 w =>
        gate (some (t_6, true)) (fun K => pvv prog (binOp .lss 3 t_19 (.int .i64 0)) w K) w fun t_20 w =>
        pv prog (oPick t_6 t_20 (.bool false)) w fun t_21 w =>
        cd t_21 (
          dr w fun w =>
          pvv prog (binOp .sub 3 j_4 (.int .i64 1)) w fun t_22 w =>
          pvv prog (binOp .sub 3 j_4 (.int .i64 1)) w fun t_23 w =>
          pvv prog (Instr.indexAt 136 data_p0 t_23) w fun t_24 w =>
          pvv prog (Instr.indexAt 136 data_p0 j_4) w fun t_25 w =>
          bindS (vN (Instr.loadAt 54 t_24)) fun m_27 => ldv prog (Instr.loadAt 54 t_24) w fun t_26 w =>
          bindS (vN (Instr.loadAt 54 t_25)) fun m_29 => ldv prog (Instr.loadAt 54 t_25) w fun t_28 w =>
          pvv prog (Instr.indexAt 136 data_p0 j_4) w fun t_30 w =>
          efu prog (Instr.storeAt 54 t_30 t_26) w fun u_31 w =>
          pvv prog (Instr.indexAt 136 data_p0 t_22) w fun t_32 w =>
          efu prog (Instr.storeAt 54 t_32 t_28) w fun u_33 w =>
          pvv prog (binOp .sub 3 j_4 (.int .i64 1)) w fun t_34 w =>
          again_5 [t_34] w) <|
        pvv prog (binOp .add 3 i_1 (.int .i64 1)) w fun t_37 w =>
        again_2 [t_37] w) [i_1] w) <|
    K (.tuple #[]) w) [t_0] w
theorem B134_eq (data_p0 a_p1 b_p2 cmp_p3 : Value) (w : World) (K : Value → World → Prop) : denFn prog Tryz.f134 T134 [data_p0, a_p1, b_p2, cmp_p3] w K = B134 data_p0 a_p1 b_p2 cmp_p3 w K := by kernel_rfl
theorem c134 {data_p0 a_p1 b_p2 cmp_p3 : Value} {w : World} {K : Value → World → Prop} (h : B134 data_p0 a_p1 b_p2 cmp_p3 w K) : Calls prog 134 #[data_p0, a_p1, b_p2, cmp_p3] w (Ret K) :=
  denFn_calls Tryz.func134 T134_ok (Eq.mpr (B134_eq data_p0 a_p1 b_p2 cmp_p3 w K) h)

-- 68 holdfast/hash.Tag
def T68 : Ann := (.seq .none (.meet 64545 [0] (.seq .none (.seq (.seq .none .none) .none)) (.seq .none (.seq .none (.seq .none (.seq (.seq .none (.block (.loop 17178820864 [20] (.seq .none (.seq (.seq .none .none) (.seq (.block (.seq .none (.seq .none .none))) .none)))))) (.seq .none (.seq (.draw [.op 0 .pure, .op 1 .pure, .op 2 .eff, .op 3 .eff, .op 4 .eff]) .none))))))))
theorem T68_ok : chkFn prog Tryz.f68 T68 = true := by kernel_rfl
def B68 (key_p0 b_p1 : Value) (w : World) (K : Value → World → Prop) : Prop :=
  efv prog (Instr.alloc 28 true (.tuple #[])) w fun t_0 w =>
  jn (fun σ w => pop σ fun key_1 σ => fin σ <|
    efv prog (Instr.alloc 171 true (.tuple #[])) w fun in_2 w =>
    efv prog (Instr.alloc 171 true (.tuple #[])) w fun out_3 w =>
    pvv prog (Instr.sliceAt 171 in_2 none none none) w fun t_4 w =>
    ef prog (oBi .copy #[22, 22] 3 #[false, false] #[t_4, key_1]) w fun t_5 w =>
    ldv prog (Instr.loadAt 171 in_2) w fun t_6 w =>
    efu prog (Instr.storeAt 171 out_3 t_6) w fun u_7 w =>
    lp (fun σ w again_9 => pop σ fun t_8 σ => fin σ <|
      pvv prog (binOp .lss 3 t_8 (.int .i64 64)) w fun t_10 w =>
      cd t_10 (
        pvv prog (Instr.indexAt 171 in_2 t_8) w fun t_11 w =>
        ldv prog (Instr.loadAt 5 t_11) w fun t_12 w =>
        pvv prog (binOp .xor 5 t_12 (.int .u8 54)) w fun t_13 w =>
        pvv prog (Instr.indexAt 171 in_2 t_8) w fun t_14 w =>
        efu prog (Instr.storeAt 5 t_14 t_13) w fun u_15 w =>
        pvv prog (Instr.indexAt 171 out_3 t_8) w fun t_16 w =>
        ldv prog (Instr.loadAt 5 t_16) w fun t_17 w =>
        pvv prog (binOp .xor 5 t_17 (.int .u8 92)) w fun t_18 w =>
        pvv prog (Instr.indexAt 171 out_3 t_8) w fun t_19 w =>
        efu prog (Instr.storeAt 5 t_19 t_18) w fun u_20 w =>
        pvv prog (binOp .add 3 t_8 (.int .i64 1)) w fun t_21 w =>
        again_9 [t_21] w) <|
      pvv prog (Instr.sliceAt 171 in_2 none none none) w fun t_22 w =>
      ef prog (oBi .append #[22, 22] 22 #[false, false] #[t_22, b_p1]) w fun t_23 w =>
      Calls prog 7 #[t_23] w (Ret fun t_24 w =>
      efv prog (Instr.alloc 28 true (.tuple #[])) w fun h_25 w =>
      efu prog (Instr.storeAt 28 h_25 t_24) w fun u_26 w =>
      dr w fun w =>
      pvv prog (Instr.sliceAt 171 out_3 none none none) w fun t_27 w =>
      pvv prog (Instr.sliceAt 28 h_25 none none none) w fun t_28 w =>
      ef prog (oBi .append #[22, 22] 22 #[false, false] #[t_27, t_28]) w fun t_29 w =>
      Calls prog 7 #[t_29] w (Ret fun t_30 w =>
      efu prog (Instr.storeAt 28 t_0 t_30) w fun u_31 w =>
      ∃ r_32, (do loadVar 28 (← asAddr t_0)).run prog w = .ok r_32 w ∧ K r_32 w))) [(.int .i64 0)] w) fun k_36 =>
  pv prog (oBi .len #[22] 3 #[false] #[key_p0]) w fun t_37 w =>
  pvv prog (binOp .gtr 3 t_37 (.int .i64 64)) w fun t_38 w =>
  cd t_38 (
    Calls prog 7 #[key_p0] w (Ret fun t_39 w =>
    efv prog (Instr.alloc 28 true (.tuple #[])) w fun h_40 w =>
    efu prog (Instr.storeAt 28 h_40 t_39) w fun u_41 w =>
    pvv prog (Instr.sliceAt 28 h_40 none none none) w fun t_42 w =>
    k_36 [t_42] w)) <|
  k_36 [key_p0] w
theorem B68_eq (key_p0 b_p1 : Value) (w : World) (K : Value → World → Prop) : denFn prog Tryz.f68 T68 [key_p0, b_p1] w K = B68 key_p0 b_p1 w K := by kernel_rfl
theorem c68 {key_p0 b_p1 : Value} {w : World} {K : Value → World → Prop} (h : B68 key_p0 b_p1 w K) : Calls prog 68 #[key_p0, b_p1] w (Ret K) :=
  denFn_calls Tryz.func68 T68_ok (Eq.mpr (B68_eq key_p0 b_p1 w K) h)

-- 17 (*holdfast/cred.Book).Add
def T17 : Ann := (.seq .none (.seq .none (.seq (.seq .none (.seq (.seq .none .none) .none)) (.seq (.seq (.draw [.op 0 .pure, .op 1 .pure, .op 2 .pure, .op 3 .load, .op 4 .load, .op 5 .load, .op 6 .pure, .op 7 .pure, .op 8 .pure, .op 9 .eff, .op 10 .eff, .op 11 .pure]) (.seq .none (.seq (.seq .none .none) .none))) (.seq (.seq .none (.seq (.seq .none .none) .none)) (.seq (.draw [.op 0 .pure, .op 1 .pure, .op 2 .pure, .op 3 .load, .op 4 .load, .op 5 .load, .op 6 .eff]) (.seq .none .none)))))))
theorem T17_ok : chkFn prog Tryz.f17 T17 = true := by kernel_rfl
def B17 (b_p0 o_p1 password_p2 salt_p3 cost_p4 : Value) (w : World) (K : Value → World → Prop) : Prop :=
  efv prog (Instr.box 54 o_p1) w fun o_0 w =>
  ldv prog (Instr.loadAt 54 o_0) w fun t_1 w =>
  Calls prog 38 #[b_p0, t_1, password_p2, salt_p3, cost_p4] w (Ret fun t_2 w =>
  pvv prog (Instr.extract t_2 0) w fun t_3 w =>
  pvv prog (Instr.extract t_2 1) w fun t_4 w =>
  efv prog (Instr.alloc 105 true (.tuple #[])) w fun r_5 w =>
  efu prog (Instr.storeAt 105 r_5 t_3) w fun u_6 w =>
  pvv prog (oEq .neq 32 (.tmp 24) (.const (.int .i64 0)) t_4 (.int .i64 0)) w fun t_7 w =>
  cd t_7 (
    K t_4 w) <|
  dr w fun w =>
  pv prog (oNil b_p0) w fun t_8 w =>
  pvv prog (Instr.fieldAt 100 t_8 0) w fun t_9 w =>
  bindS (vN (Instr.loadAt 98 t_9)) fun m_11 => ldv prog (Instr.loadAt 98 t_9) w fun t_10 w =>
  bindS (vN (Instr.loadAt 54 o_0)) fun m_13 => ldv prog (Instr.loadAt 54 o_0) w fun t_12 w =>
  bindS (vN (Instr.lookup 98 t_10 t_12 true)) fun m_15 => ldv prog (Instr.lookup 98 t_10 t_12 true) w fun t_14 w =>
  pvv prog (Instr.extract t_14 0) w fun t_16 w =>
  pvv prog (Instr.extract t_14 1) w fun t_17 w =>
  efv prog (Instr.alloc 105 true (.tuple #[])) w fun t_18 w => stay prog none m_15 t_14 w <| stay prog none m_13 t_12 w <| stay prog none m_11 t_10 w <| 
  efu prog (Instr.storeAt 105 t_18 t_16) w fun u_19 w =>
  cd t_17 (
    K (.int .i64 5) w) <|
  pvv prog (Instr.fieldAt 54 o_0 0) w fun t_20 w =>
  ldv prog (Instr.loadAt 9 t_20) w fun t_21 w =>
  Calls prog 39 #[b_p0, t_21] w (Ret fun t_22 w =>
  cd t_22 (
    K (.int .i64 21) w) <|
  dr w fun w =>
  pv prog (oNil b_p0) w fun t_23 w =>
  pvv prog (Instr.fieldAt 100 t_23 0) w fun t_24 w =>
  bindS (vN (Instr.loadAt 98 t_24)) fun m_26 => ldv prog (Instr.loadAt 98 t_24) w fun t_25 w =>
  bindS (vN (Instr.loadAt 54 o_0)) fun m_28 => ldv prog (Instr.loadAt 54 o_0) w fun t_27 w =>
  bindS (vN (Instr.loadAt 105 r_5)) fun m_30 => ldv prog (Instr.loadAt 105 r_5) w fun t_29 w =>
  efu prog (Instr.mapUpdate 98 t_25 t_27 t_29) w fun u_31 w =>
  K (.int .i64 0) w))
theorem B17_eq (b_p0 o_p1 password_p2 salt_p3 cost_p4 : Value) (w : World) (K : Value → World → Prop) : denFn prog Tryz.f17 T17 [b_p0, o_p1, password_p2, salt_p3, cost_p4] w K = B17 b_p0 o_p1 password_p2 salt_p3 cost_p4 w K := by kernel_rfl
theorem c17 {b_p0 o_p1 password_p2 salt_p3 cost_p4 : Value} {w : World} {K : Value → World → Prop} (h : B17 b_p0 o_p1 password_p2 salt_p3 cost_p4 w K) : Calls prog 17 #[b_p0, o_p1, password_p2, salt_p3, cost_p4] w (Ret K) :=
  denFn_calls Tryz.func17 T17_ok (Eq.mpr (B17_eq b_p0 o_p1 password_p2 salt_p3 cost_p4 w K) h)

-- 45 (*holdfast/cred.Book).find
def T45 : Ann := (.seq .none (.seq (.seq .none (.seq (.seq .none .none) .none)) (.seq (.draw [.op 0 .pure, .op 1 .pure, .op 2 .pure, .op 3 .load, .op 4 .load, .op 5 .load, .op 6 .pure, .op 7 .pure, .op 8 .pure, .op 9 .eff, .op 10 .eff, .op 11 .pure]) (.seq (.block (.seq .none (.seq (.seq .none .none) (.seq .none (.seq (.seq .none .none) .none))))) (.seq .none .none)))))
theorem T45_ok : chkFn prog Tryz.f45 T45 = true := by kernel_rfl
def B45 (b_p0 o_p1 now_p2 : Value) (w : World) (K : Value → World → Prop) : Prop :=
  efv prog (Instr.box 54 o_p1) w fun o_0 w =>
  efv prog (Instr.alloc 105 true (.tuple #[])) w fun t_1 w =>
  pvv prog (oEq .eql 51 (.tmp 10) (.const (.pointer none)) b_p0 (.pointer none)) w fun t_2 w =>
  cd t_2 (
    pvv prog (Instr.build 105 #[]) w fun t_3 w =>
    efu prog (Instr.storeAt 105 t_1 t_3) w fun u_4 w =>
    ∃ r_5, (do loadVar 105 (← asAddr t_1)).run prog w = .ok r_5 w ∧ K (.tuple #[r_5, (.int .i64 1)]) w) <|
  dr w fun w =>
  pv prog (oNil b_p0) w fun t_6 w =>
  pvv prog (Instr.fieldAt 100 t_6 0) w fun t_7 w =>
  bindS (vN (Instr.loadAt 98 t_7)) fun m_9 => ldv prog (Instr.loadAt 98 t_7) w fun t_8 w =>
  bindS (vN (Instr.loadAt 54 o_0)) fun m_11 => ldv prog (Instr.loadAt 54 o_0) w fun t_10 w =>
  bindS (vN (Instr.lookup 98 t_8 t_10 true)) fun m_13 => ldv prog (Instr.lookup 98 t_8 t_10 true) w fun t_12 w =>
  pvv prog (Instr.extract t_12 0) w fun t_14 w =>
  pvv prog (Instr.extract t_12 1) w fun t_15 w =>
  efv prog (Instr.alloc 105 true (.tuple #[])) w fun r_16 w => stay prog none m_13 t_12 w <| stay prog none m_11 t_10 w <| stay prog none m_9 t_8 w <| 
  efu prog (Instr.storeAt 105 r_16 t_14) w fun u_17 w =>
  pvv prog (Op.unary .not t_15) w fun t_18 w =>
  cd t_18 (
    pvv prog (Instr.build 105 #[]) w fun t_19 w =>
    efu prog (Instr.storeAt 105 t_1 t_19) w fun u_20 w =>
    ∃ r_21, (do loadVar 105 (← asAddr t_1)).run prog w = .ok r_21 w ∧ K (.tuple #[r_21, (.int .i64 4)]) w) <|
  pvv prog (binOp .lss 3 now_p2 (.int .i64 0)) w fun t_22 w =>
  gate (some (t_22, false)) (fun K => K now_p2 w) w fun t_23 w =>
  gate (some (t_22, false)) (fun K => pvv prog (binOp .gtr 3 t_23 (.int .i64 1099511627776)) w K) w fun t_24 w =>
  pv prog (oPick t_22 (.bool true) t_24) w fun t_25 w =>
  cd t_25 (
    pvv prog (Instr.build 105 #[]) w fun t_26 w =>
    efu prog (Instr.storeAt 105 t_1 t_26) w fun u_27 w =>
    ∃ r_28, (do loadVar 105 (← asAddr t_1)).run prog w = .ok r_28 w ∧ K (.tuple #[r_28, (.int .i64 2)]) w) <|
  ldv prog (Instr.loadAt 105 r_16) w fun t_29 w =>
  efu prog (Instr.storeAt 105 t_1 t_29) w fun u_30 w =>
  ∃ r_31, (do loadVar 105 (← asAddr t_1)).run prog w = .ok r_31 w ∧ K (.tuple #[r_31, (.int .i64 0)]) w
theorem B45_eq (b_p0 o_p1 now_p2 : Value) (w : World) (K : Value → World → Prop) : denFn prog Tryz.f45 T45 [b_p0, o_p1, now_p2] w K = B45 b_p0 o_p1 now_p2 w K := by kernel_rfl
theorem c45 {b_p0 o_p1 now_p2 : Value} {w : World} {K : Value → World → Prop} (h : B45 b_p0 o_p1 now_p2 w K) : Calls prog 45 #[b_p0, o_p1, now_p2] w (Ret K) :=
  denFn_calls Tryz.func45 T45_ok (Eq.mpr (B45_eq b_p0 o_p1 now_p2 w K) h)

-- 38 (*holdfast/cred.Book).made
def T38 : Ann := (.seq .none (.seq (.block (.seq .none (.seq (.seq .none .none) (.seq .none (.seq (.seq .none .none) .none))))) (.seq .none (.seq .none .none))))
theorem T38_ok : chkFn prog Tryz.f38 T38 = true := by kernel_rfl
def B38 (b_p0 o_p1 password_p2 salt_p3 cost_p4 : Value) (w : World) (K : Value → World → Prop) : Prop :=
  efv prog (Instr.box 54 o_p1) w fun o_0 w =>
  efv prog (Instr.alloc 105 true (.tuple #[])) w fun t_1 w =>
  pvv prog (oEq .eql 51 (.tmp 15) (.const (.pointer none)) b_p0 (.pointer none)) w fun t_2 w =>
  cd t_2 (
    pvv prog (Instr.build 105 #[]) w fun t_3 w =>
    efu prog (Instr.storeAt 105 t_1 t_3) w fun u_4 w =>
    ∃ r_5, (do loadVar 105 (← asAddr t_1)).run prog w = .ok r_5 w ∧ K (.tuple #[r_5, (.int .i64 1)]) w) <|
  pvv prog (Instr.fieldAt 54 o_0 0) w fun t_6 w =>
  ldv prog (Instr.loadAt 9 t_6) w fun t_7 w =>
  Calls prog 53 #[t_7] w (Ret fun t_8 w =>
  pvv prog (Op.unary .not t_8) w fun t_9 w =>
  gate (some (t_9, false)) (fun K => pvv prog (Instr.fieldAt 54 o_0 1) w K) w fun t_10 w =>
  gate (some (t_9, false)) (fun K => ldv prog (Instr.loadAt 9 t_10) w K) w fun t_11 w =>
  gate (some (t_9, false)) (fun K => Calls prog 53 #[t_11] w (Ret K)) w fun t_12 w =>
  gate (some (t_9, false)) (fun K => pvv prog (Op.unary .not t_12) w K) w fun t_13 w =>
  pv prog (oPick t_9 (.bool true) t_13) w fun t_14 w =>
  cd t_14 (
    pvv prog (Instr.build 105 #[]) w fun t_15 w =>
    efu prog (Instr.storeAt 105 t_1 t_15) w fun u_16 w =>
    ∃ r_17, (do loadVar 105 (← asAddr t_1)).run prog w = .ok r_17 w ∧ K (.tuple #[r_17, (.int .i64 8)]) w) <|
  Calls prog 46 #[password_p2, salt_p3, cost_p4] w (Ret fun t_18 w =>
  pvv prog (Instr.extract t_18 0) w fun t_19 w =>
  pvv prog (Instr.extract t_18 1) w fun t_20 w =>
  efv prog (Instr.alloc 28 true (.tuple #[])) w fun h_21 w =>
  efu prog (Instr.storeAt 28 h_21 t_19) w fun u_22 w =>
  ldv prog (Instr.loadAt 28 h_21) w fun t_23 w =>
  pvv prog (Instr.build 105 #[(1, t_23), (2, salt_p3), (3, cost_p4)]) w fun t_24 w =>
  efu prog (Instr.storeAt 105 t_1 t_24) w fun u_25 w =>
  ∃ r_26, (do loadVar 105 (← asAddr t_1)).run prog w = .ok r_26 w ∧ K (.tuple #[r_26, t_20]) w))
theorem B38_eq (b_p0 o_p1 password_p2 salt_p3 cost_p4 : Value) (w : World) (K : Value → World → Prop) : denFn prog Tryz.f38 T38 [b_p0, o_p1, password_p2, salt_p3, cost_p4] w K = B38 b_p0 o_p1 password_p2 salt_p3 cost_p4 w K := by kernel_rfl
theorem c38 {b_p0 o_p1 password_p2 salt_p3 cost_p4 : Value} {w : World} {K : Value → World → Prop} (h : B38 b_p0 o_p1 password_p2 salt_p3 cost_p4 w K) : Calls prog 38 #[b_p0, o_p1, password_p2, salt_p3, cost_p4] w (Ret K) :=
  denFn_calls Tryz.func38 T38_ok (Eq.mpr (B38_eq b_p0 o_p1 password_p2 salt_p3 cost_p4 w K) h)

-- 89 math/bits.Len64
def T89 : Ann := (.seq .none (.meet 125 [0, 2] (.seq .none (.seq (.seq .none .none) .none)) (.meet 8069 [0, 2] (.seq .none (.seq (.seq .none .none) .none)) (.meet 516101 [0, 2] (.seq .none (.seq (.seq .none .none) .none)) (.seq .none .none)))))
theorem T89_ok : chkFn prog Tryz.f89 T89 = true := by kernel_rfl
def B89 (x_p0 : Value) (w : World) (K : Value → World → Prop) : Prop :=
  jn (fun σ w => pop σ fun x_0 σ => pop σ fun n_1 σ => fin σ <|
    jn (fun σ w => pop σ fun x_2 σ => pop σ fun n_3 σ => fin σ <|
      jn (fun σ w => pop σ fun x_4 σ => pop σ fun n_5 σ => fin σ <|
        pvv prog (convert 79 5 x_4) w fun t_6 w =>
        pvv prog (Instr.index 9 (.string ⟨#[0, 1, 2, 2, 3, 3, 3, 3, 4, 4, 4, 4, 4, 4, 4, 4, 5, 5, 5, 5, 5, 5, 5, 5, 5, 5, 5, 5, 5, 5, 5, 5, 6, 6, 6, 6, 6, 6, 6, 6, 6, 6, 6, 6, 6, 6, 6, 6, 6, 6, 6, 6, 6, 6, 6, 6, 6, 6, 6, 6, 6, 6, 6, 6, 7, 7, 7, 7, 7, 7, 7, 7, 7, 7, 7, 7, 7, 7, 7, 7, 7, 7, 7, 7, 7, 7, 7, 7, 7, 7, 7, 7, 7, 7, 7, 7, 7, 7, 7, 7, 7, 7, 7, 7, 7, 7, 7, 7, 7, 7, 7, 7, 7, 7, 7, 7, 7, 7, 7, 7, 7, 7, 7, 7, 7, 7, 7, 7, 8, 8, 8, 8, 8, 8, 8, 8, 8, 8, 8, 8, 8, 8, 8, 8, 8, 8, 8, 8, 8, 8, 8, 8, 8, 8, 8, 8, 8, 8, 8, 8, 8, 8, 8, 8, 8, 8, 8, 8, 8, 8, 8, 8, 8, 8, 8, 8, 8, 8, 8, 8, 8, 8, 8, 8, 8, 8, 8, 8, 8, 8, 8, 8, 8, 8, 8, 8, 8, 8, 8, 8, 8, 8, 8, 8, 8, 8, 8, 8, 8, 8, 8, 8, 8, 8, 8, 8, 8, 8, 8, 8, 8, 8, 8, 8, 8, 8, 8, 8, 8, 8, 8, 8, 8, 8, 8, 8, 8, 8, 8, 8, 8, 8, 8, 8, 8, 8, 8, 8, 8, 8, 8, 8, 8, 8, 8, 8]⟩) t_6) w fun t_7 w =>
        pvv prog (convert 5 3 t_7) w fun t_8 w =>
        pvv prog (binOp .add 3 n_5 t_8) w fun t_9 w =>
        K t_9 w) fun k_10 =>
      pvv prog (binOp .geq 79 x_2 (.int .u64 256)) w fun t_11 w =>
      cd t_11 (
        pvv prog (binOp .shr 79 x_2 (.int .u64 8)) w fun t_12 w =>
        pvv prog (binOp .add 3 n_3 (.int .i64 8)) w fun t_13 w =>
        k_10 [t_12, t_13] w) <|
      k_10 [x_2, n_3] w) fun k_14 =>
    pvv prog (binOp .geq 79 x_0 (.int .u64 65536)) w fun t_15 w =>
    cd t_15 (
      pvv prog (binOp .shr 79 x_0 (.int .u64 16)) w fun t_16 w =>
      pvv prog (binOp .add 3 n_1 (.int .i64 16)) w fun t_17 w =>
      k_14 [t_16, t_17] w) <|
    k_14 [x_0, n_1] w) fun k_18 =>
  pvv prog (binOp .geq 79 x_p0 (.int .u64 4294967296)) w fun t_19 w =>
  cd t_19 (
    pvv prog (binOp .shr 79 x_p0 (.int .u64 32)) w fun t_20 w =>
    k_18 [t_20, (.int .i64 32)] w) <|
  k_18 [x_p0, (.int .i64 0)] w
theorem B89_eq (x_p0 : Value) (w : World) (K : Value → World → Prop) : denFn prog Tryz.f89 T89 [x_p0] w K = B89 x_p0 w K := by kernel_rfl
theorem c89 {x_p0 : Value} {w : World} {K : Value → World → Prop} (h : B89 x_p0 w K) : Calls prog 89 #[x_p0] w (Ret K) :=
  denFn_calls Tryz.func89 T89_ok (Eq.mpr (B89_eq x_p0 w K) h)

-- 71 strings.Trim
def T71 : Ann := (.seq .none (.seq (.seq .none (.seq (.seq .none .none) .none)) (.seq (.seq .none (.seq (.seq (.draw [.op 0 .pure, .op 1 .pure, .op 2 .pure, .op 4 .pure, .op 5 .pure, .op 3 .eff, .op 6 .eff, .op 7 .pure]) .none) .none)) (.seq (.seq .none (.seq .none (.seq (.seq .none .none) .none))) (.seq .none .none)))))
theorem T71_ok : chkFn prog Tryz.f71 T71 = true := by kernel_rfl
def B71 (s_p0 cutset_p1 : Value) (w : World) (K : Value → World → Prop) : Prop :=
  pvv prog (oEq .eql 9 (.tmp 7) (.const (.string ⟨#[]⟩)) s_p0 (.string ⟨#[]⟩)) w fun t_0 w =>
  gate (some (t_0, false)) (fun K => K cutset_p1 w) w fun t_1 w =>
  gate (some (t_0, false)) (fun K => pvv prog (oEq .eql 9 (.tmp 10) (.const (.string ⟨#[]⟩)) t_1 (.string ⟨#[]⟩)) w K) w fun t_2 w =>
  pv prog (oPick t_0 (.bool true) t_2) w fun t_3 w =>
  cd t_3 (
    K s_p0 w) <|
  pv prog (oBi .len #[9] 3 #[false] #[cutset_p1]) w fun t_4 w =>
  pvv prog (oEq .eql 3 (.tmp 15) (.const (.int .i64 1)) t_4 (.int .i64 1)) w fun t_5 w =>
  gate (some (t_5, true)) (fun K => K cutset_p1 w) w fun t_6 w =>
  gate (some (t_5, true)) (fun K => pvv prog (Instr.index 9 t_6 (.int .i64 0)) w K) w fun t_7 w =>
  gate (some (t_5, true)) (fun K => pvv prog (binOp .lss 5 t_7 (.int .u8 128)) w K) w fun t_8 w =>
  pv prog (oPick t_5 t_8 (.bool false)) w fun t_9 w =>
  cd t_9 (
    dr w fun w =>
    pvv prog (Instr.index 9 cutset_p1 (.int .i64 0)) w fun t_10 w =>
    pvv prog (Instr.index 9 cutset_p1 (.int .i64 0)) w fun t_11 w =>
    Calls prog 94 #[s_p0, t_10] w (Ret fun t_12 w =>
    Calls prog 93 #[t_12, t_11] w (Ret fun t_13 w =>
    K t_13 w))) <|
  Calls prog 95 #[cutset_p1] w (Ret fun t_16 w =>
  pvv prog (Instr.extract t_16 0) w fun t_17 w =>
  pvv prog (Instr.extract t_16 1) w fun t_18 w =>
  efv prog (Instr.alloc 174 true (.tuple #[])) w fun as_19 w =>
  efu prog (Instr.storeAt 174 as_19 t_17) w fun u_20 w =>
  cd t_18 (
    Calls prog 97 #[s_p0, as_19] w (Ret fun t_21 w =>
    Calls prog 96 #[t_21, as_19] w (Ret fun t_22 w =>
    K t_22 w))) <|
  Calls prog 99 #[s_p0, cutset_p1] w (Ret fun t_23 w =>
  Calls prog 98 #[t_23, cutset_p1] w (Ret fun t_24 w =>
  K t_24 w)))
theorem B71_eq (s_p0 cutset_p1 : Value) (w : World) (K : Value → World → Prop) : denFn prog Tryz.f71 T71 [s_p0, cutset_p1] w K = B71 s_p0 cutset_p1 w K := by kernel_rfl
theorem c71 {s_p0 cutset_p1 : Value} {w : World} {K : Value → World → Prop} (h : B71 s_p0 cutset_p1 w K) : Calls prog 71 #[s_p0, cutset_p1] w (Ret K) :=
  denFn_calls Tryz.func71 T71_ok (Eq.mpr (B71_eq s_p0 cutset_p1 w K) h)

-- 24 holdfast/hash.rounds
def T24 : Ann := (.seq .none (.seq .none .none))
theorem T24_ok : chkFn prog Tryz.f24 T24 = true := by kernel_rfl
def B24 (w : World) (K : Value → World → Prop) : Prop :=
  pvv prog (Instr.build 119 #[(0, (.int .u32 1116352408)), (1, (.int .u32 1899447441)), (2, (.int .u32 3049323471)), (3, (.int .u32 3921009573)), (4, (.int .u32 961987163)), (5, (.int .u32 1508970993)), (6, (.int .u32 2453635748)), (7, (.int .u32 2870763221)), (8, (.int .u32 3624381080)), (9, (.int .u32 310598401)), (10, (.int .u32 607225278)), (11, (.int .u32 1426881987)), (12, (.int .u32 1925078388)), (13, (.int .u32 2162078206)), (14, (.int .u32 2614888103)), (15, (.int .u32 3248222580)), (16, (.int .u32 3835390401)), (17, (.int .u32 4022224774)), (18, (.int .u32 264347078)), (19, (.int .u32 604807628)), (20, (.int .u32 770255983)), (21, (.int .u32 1249150122)), (22, (.int .u32 1555081692)), (23, (.int .u32 1996064986)), (24, (.int .u32 2554220882)), (25, (.int .u32 2821834349)), (26, (.int .u32 2952996808)), (27, (.int .u32 3210313671)), (28, (.int .u32 3336571891)), (29, (.int .u32 3584528711)), (30, (.int .u32 113926993)), (31, (.int .u32 338241895)), (32, (.int .u32 666307205)), (33, (.int .u32 773529912)), (34, (.int .u32 1294757372)), (35, (.int .u32 1396182291)), (36, (.int .u32 1695183700)), (37, (.int .u32 1986661051)), (38, (.int .u32 2177026350)), (39, (.int .u32 2456956037)), (40, (.int .u32 2730485921)), (41, (.int .u32 2820302411)), (42, (.int .u32 3259730800)), (43, (.int .u32 3345764771)), (44, (.int .u32 3516065817)), (45, (.int .u32 3600352804)), (46, (.int .u32 4094571909)), (47, (.int .u32 275423344)), (48, (.int .u32 430227734)), (49, (.int .u32 506948616)), (50, (.int .u32 659060556)), (51, (.int .u32 883997877)), (52, (.int .u32 958139571)), (53, (.int .u32 1322822218)), (54, (.int .u32 1537002063)), (55, (.int .u32 1747873779)), (56, (.int .u32 1955562222)), (57, (.int .u32 2024104815)), (58, (.int .u32 2227730452)), (59, (.int .u32 2361852424)), (60, (.int .u32 2428436474)), (61, (.int .u32 2756734187)), (62, (.int .u32 3204031479)), (63, (.int .u32 3329325298))]) w fun t_0 w =>
  efv prog (Instr.box 119 t_0) w fun t_1 w =>
  K t_1 w
theorem B24_eq (w : World) (K : Value → World → Prop) : denFn prog Tryz.f24 T24 [] w K = B24  w K := by kernel_rfl
theorem c24 {w : World} {K : Value → World → Prop} (h : B24  w K) : Calls prog 24 #[] w (Ret K) :=
  denFn_calls Tryz.func24 T24_ok (Eq.mpr (B24_eq  w K) h)

-- 61 (*holdfast/cred.Book).Owners
def T61 : Ann := (.seq .none (.seq (.seq .none (.seq (.seq .none .none) .none)) (.seq .none (.seq (.seq .none (.block (.loop 67092576 [5] (.seq .none (.seq (.seq .none .none) (.block (.seq .none (.seq .none (.seq .none .none))))))))) (.seq .none (.seq .none .none))))))
theorem T61_ok : chkFn prog Tryz.f61 T61 = true := by kernel_rfl
def B61 (b_p0 tenant_p1 : Value) (w : World) (K : Value → World → Prop) : Prop :=
  pvv prog (oEq .eql 51 (.tmp 7) (.const (.pointer none)) b_p0 (.pointer none)) w fun t_0 w =>
  cd t_0 (
    K (.slice none 0 0) w) <|
  pv prog (oNil b_p0) w fun t_1 w =>
  pvv prog (Instr.fieldAt 100 t_1 0) w fun t_2 w =>
  ldv prog (Instr.loadAt 98 t_2) w fun t_3 w =>
  efv prog (Instr.range 98 t_3) w fun t_4 w =>
  lp (fun σ w again_6 => pop σ fun out_5 σ => fin σ <|
    efv prog (Instr.next t_4 false 0) w fun t_7 w =>
    pvv prog (Instr.extract t_7 0) w fun t_8 w =>
    cd t_8 (
      efv prog (Instr.entry t_4) w fun t_9 w =>
      pvv prog (Instr.extract t_9 0) w fun t_10 w =>
      efv prog (Instr.alloc 54 true (.tuple #[])) w fun o_11 w =>
      efu prog (Instr.storeAt 54 o_11 t_10) w fun u_12 w =>
      pvv prog (Instr.fieldAt 54 o_11 0) w fun t_13 w =>
      ldv prog (Instr.loadAt 9 t_13) w fun t_14 w =>
      pvv prog (oEq .eql 9 (.tmp 19) (.tmp 20) t_14 tenant_p1) w fun t_15 w =>
      cd t_15 (
        ldv prog (Instr.loadAt 54 o_11) w fun t_16 w =>
        efv prog (Instr.buildSlice 136 1 #[(0, t_16)]) w fun t_17 w =>
        ef prog (oBi .append #[136, 136] 136 #[false, false] #[out_5, t_17]) w fun t_18 w =>
        again_6 [t_18] w) <|
      again_6 [out_5] w) <|
    Calls prog 76 #[out_5, (.func (.func 77) #[] #[])] w (Ret fun t_19 w =>
    K out_5 w)) [(.slice none 0 0)] w
theorem B61_eq (b_p0 tenant_p1 : Value) (w : World) (K : Value → World → Prop) : denFn prog Tryz.f61 T61 [b_p0, tenant_p1] w K = B61 b_p0 tenant_p1 w K := by kernel_rfl
theorem c61 {b_p0 tenant_p1 : Value} {w : World} {K : Value → World → Prop} (h : B61 b_p0 tenant_p1 w K) : Calls prog 61 #[b_p0, tenant_p1] w (Ret K) :=
  denFn_calls Tryz.func61 T61_ok (Eq.mpr (B61_eq b_p0 tenant_p1 w K) h)

-- 99 strings.trimRightUnicode
def T99 : Ann := (.seq .none (.meet 8589934561 [0] (.block (.loop 8589934561 [0] (.seq (.seq .none (.seq .none .none)) (.block (.seq .none (.meet 8323168 [5, 6] (.seq .none (.seq .none .none)) (.seq (.seq .none (.seq .none .none)) .none))))))) (.seq .none .none)))
theorem T99_ok : chkFn prog Tryz.f99 T99 = true := by kernel_rfl
def B99 (s_p0 cutset_p1 : Value) (w : World) (K : Value → World → Prop) : Prop :=
  jn (fun σ w => pop σ fun s_0 σ => fin σ <|
    K s_0 w) fun k_1 =>
  lp (fun σ w again_3 => pop σ fun s_2 σ => fin σ <|
    pv prog (oBi .len #[9] 3 #[false] #[s_2]) w fun t_4 w =>
    pvv prog (binOp .gtr 3 t_4 (.int .i64 0)) w fun t_5 w =>
    cd t_5 (
      pv prog (oBi .len #[9] 3 #[false] #[s_2]) w fun t_6 w =>
      pvv prog (binOp .sub 3 t_6 (.int .i64 1)) w fun t_7 w =>
      pvv prog (Instr.index 9 s_2 t_7) w fun t_8 w =>
      pvv prog (convert 5 21 t_8) w fun t_9 w =>
      jn (fun σ w => pop σ fun r_10 σ => pop σ fun n_11 σ => fin σ <|
        Calls prog 123 #[cutset_p1, r_10] w (Ret fun t_12 w =>
        pvv prog (Op.unary .not t_12) w fun t_13 w =>
        cd t_13 (
          k_1 [s_2] w) <|
        pv prog (oBi .len #[9] 3 #[false] #[s_2]) w fun t_14 w =>
        pvv prog (binOp .sub 3 t_14 n_11) w fun t_15 w =>
        pvv prog (Instr.sliceAt 9 s_2 none (some t_15) none) w fun t_16 w =>
        again_3 [t_16] w)) fun k_17 =>
      pvv prog (binOp .geq 21 t_9 (.int .i32 128)) w fun t_18 w =>
      cd t_18 (
        Calls prog 124 #[s_2] w (Ret fun t_19 w =>
        pvv prog (Instr.extract t_19 0) w fun t_20 w =>
        pvv prog (Instr.extract t_19 1) w fun t_21 w =>
        k_17 [t_20, t_21] w)) <|
      k_17 [t_9, (.int .i64 1)] w) <|
    k_1 [s_2] w) [s_p0] w
theorem B99_eq (s_p0 cutset_p1 : Value) (w : World) (K : Value → World → Prop) : denFn prog Tryz.f99 T99 [s_p0, cutset_p1] w K = B99 s_p0 cutset_p1 w K := by kernel_rfl
theorem c99 {s_p0 cutset_p1 : Value} {w : World} {K : Value → World → Prop} (h : B99 s_p0 cutset_p1 w K) : Calls prog 99 #[s_p0, cutset_p1] w (Ret K) :=
  denFn_calls Tryz.func99 T99_ok (Eq.mpr (B99_eq s_p0 cutset_p1 w K) h)

-- 115 strings.Count
def T115 : Ann := (.seq .none (.seq (.seq .none (.seq (.seq .none .none) .none)) (.seq (.seq .none (.seq (.seq .none .none) .none)) (.seq .none (.block (.loop 17178820721 [0, 5] (.block (.seq .none (.seq (.seq .none (.seq (.seq .none .none) .none)) (.seq .none .none))))))))))
theorem T115_ok : chkFn prog Tryz.f115 T115 = true := by kernel_rfl
def B115 (s_p0 substr_p1 : Value) (w : World) (K : Value → World → Prop) : Prop :=
  pv prog (oBi .len #[9] 3 #[false] #[substr_p1]) w fun t_0 w =>
  pvv prog (oEq .eql 3 (.tmp 8) (.const (.int .i64 0)) t_0 (.int .i64 0)) w fun t_1 w =>
  cd t_1 (
    Calls prog 145 #[s_p0] w (Ret fun t_2 w =>
    pvv prog (binOp .add 3 t_2 (.int .i64 1)) w fun t_3 w =>
    K t_3 w)) <|
  pv prog (oBi .len #[9] 3 #[false] #[substr_p1]) w fun t_4 w =>
  pvv prog (oEq .eql 3 (.tmp 14) (.const (.int .i64 1)) t_4 (.int .i64 1)) w fun t_5 w =>
  cd t_5 (
    pvv prog (Instr.index 9 substr_p1 (.int .i64 0)) w fun t_6 w =>
    ef prog (oCall (.func (.func 146) #[] #[]) #[s_p0, t_6]) w fun t_7 w =>
    K t_7 w) <|
  lp (fun σ w again_10 => pop σ fun s_8 σ => pop σ fun n_9 σ => fin σ <|
    Calls prog 116 #[s_8, substr_p1] w (Ret fun t_11 w =>
    pvv prog (oEq .eql 3 (.tmp 23) (.const (.int .i64 (-1))) t_11 (.int .i64 (-1))) w fun t_12 w =>
    cd t_12 (
      K n_9 w) <|
    pvv prog (binOp .add 3 n_9 (.int .i64 1)) w fun t_13 w =>
    pv prog (oBi .len #[9] 3 #[false] #[substr_p1]) w fun t_14 w =>
    pvv prog (binOp .add 3 t_11 t_14) w fun t_15 w =>
    pvv prog (Instr.sliceAt 9 s_8 (some t_15) none none) w fun t_16 w =>
    again_10 [t_16, t_13] w)) [s_p0, (.int .i64 0)] w
theorem B115_eq (s_p0 substr_p1 : Value) (w : World) (K : Value → World → Prop) : denFn prog Tryz.f115 T115 [s_p0, substr_p1] w K = B115 s_p0 substr_p1 w K := by kernel_rfl
theorem c115 {s_p0 substr_p1 : Value} {w : World} {K : Value → World → Prop} (h : B115 s_p0 substr_p1 w K) : Calls prog 115 #[s_p0, substr_p1] w (Ret K) :=
  denFn_calls Tryz.func115 T115_ok (Eq.mpr (B115_eq s_p0 substr_p1 w K) h)

-- 20 (*holdfast/keys.Tree).Reseal
def T20 : Ann := (.seq .none (.seq .none (.seq (.seq .none (.seq (.seq .none .none) .none)) (.seq (.seq .none (.seq .none (.seq (.seq .none .none) .none))) (.seq .none (.seq .none .none))))))
theorem T20_ok : chkFn prog Tryz.f20 T20 = true := by kernel_rfl
def B20 (t_p0 tenant_p1 name_p2 sealed_p3 : Value) (w : World) (K : Value → World → Prop) : Prop :=
  Calls prog 12 #[t_p0, tenant_p1, name_p2, sealed_p3] w (Ret fun t_0 w =>
  pvv prog (Instr.extract t_0 0) w fun t_1 w =>
  pvv prog (Instr.extract t_0 1) w fun t_2 w =>
  pvv prog (Instr.extract t_0 2) w fun t_3 w =>
  pvv prog (oEq .neq 32 (.tmp 26) (.const (.int .i64 0)) t_3 (.int .i64 0)) w fun t_4 w =>
  cd t_4 (
    K (.tuple #[(.slice none 0 0), (.bool false), t_3]) w) <|
  Calls prog 31 #[t_p0, tenant_p1, name_p2] w (Ret fun t_5 w =>
  pvv prog (Instr.extract t_5 0) w fun t_6 w =>
  pvv prog (Instr.extract t_5 1) w fun t_7 w =>
  pvv prog (oEq .eql 3 (.tmp 36) (.tmp 37) t_6 t_2) w fun t_8 w =>
  cd t_8 (
    Calls prog 26 #[sealed_p3] w (Ret fun t_9 w =>
    K (.tuple #[t_9, (.bool false), (.int .i64 0)]) w)) <|
  Calls prog 11 #[t_p0, tenant_p1, name_p2, t_1] w (Ret fun t_10 w =>
  pvv prog (Instr.extract t_10 0) w fun t_11 w =>
  pvv prog (Instr.extract t_10 1) w fun t_12 w =>
  pvv prog (oEq .eql 32 (.tmp 50) (.const (.int .i64 0)) t_12 (.int .i64 0)) w fun t_13 w =>
  K (.tuple #[t_11, t_13, t_12]) w)))
theorem B20_eq (t_p0 tenant_p1 name_p2 sealed_p3 : Value) (w : World) (K : Value → World → Prop) : denFn prog Tryz.f20 T20 [t_p0, tenant_p1, name_p2, sealed_p3] w K = B20 t_p0 tenant_p1 name_p2 sealed_p3 w K := by kernel_rfl
theorem c20 {t_p0 tenant_p1 name_p2 sealed_p3 : Value} {w : World} {K : Value → World → Prop} (h : B20 t_p0 tenant_p1 name_p2 sealed_p3 w K) : Calls prog 20 #[t_p0, tenant_p1, name_p2, sealed_p3] w (Ret K) :=
  denFn_calls Tryz.func20 T20_ok (Eq.mpr (B20_eq t_p0 tenant_p1 name_p2 sealed_p3 w K) h)

-- 95 strings.makeASCIISet
def T95 : Ann := (.seq .none (.seq (.seq .none (.block (.loop 1048568 [4] (.seq (.seq .none (.seq .none .none)) (.seq (.block (.seq .none (.seq (.seq .none (.seq (.seq .none .none) .none)) .none))) .none))))) (.seq .none .none)))
theorem T95_ok : chkFn prog Tryz.f95 T95 = true := by kernel_rfl
def B95 (chars_p0 : Value) (w : World) (K : Value → World → Prop) : Prop :=
  efv prog (Instr.alloc 174 true (.tuple #[])) w fun as_0 w =>
  lp (fun σ w again_2 => pop σ fun i_1 σ => fin σ <|
    pv prog (oBi .len #[9] 3 #[false] #[chars_p0]) w fun t_3 w =>
    pvv prog (binOp .lss 3 i_1 t_3) w fun t_4 w =>
    cd t_4 (
      pvv prog (Instr.index 9 chars_p0 i_1) w fun t_5 w =>
      pvv prog (binOp .geq 5 t_5 (.int .u8 128)) w fun t_6 w =>
      cd t_6 (
        ldv prog (Instr.loadAt 174 as_0) w fun t_7 w =>
        efu prog (Instr.storeAt 174 as_0 t_7) w fun u_8 w =>
        ∃ r_9, (do loadVar 174 (← asAddr as_0)).run prog w = .ok r_9 w ∧ K (.tuple #[r_9, (.bool false)]) w) <|
      pvv prog (Instr.indexAt 174 as_0 t_5) w fun t_10 w =>
      efu prog (Instr.storeAt 4 t_10 (.bool true)) w fun u_11 w =>
      pvv prog (binOp .add 3 i_1 (.int .i64 1)) w fun t_12 w =>
      again_2 [t_12] w) <|
    ldv prog (Instr.loadAt 174 as_0) w fun t_13 w =>
    efu prog (Instr.storeAt 174 as_0 t_13) w fun u_14 w =>
    ∃ r_15, (do loadVar 174 (← asAddr as_0)).run prog w = .ok r_15 w ∧ K (.tuple #[r_15, (.bool true)]) w) [(.int .i64 0)] w
theorem B95_eq (chars_p0 : Value) (w : World) (K : Value → World → Prop) : denFn prog Tryz.f95 T95 [chars_p0] w K = B95 chars_p0 w K := by kernel_rfl
theorem c95 {chars_p0 : Value} {w : World} {K : Value → World → Prop} (h : B95 chars_p0 w K) : Calls prog 95 #[chars_p0] w (Ret K) :=
  denFn_calls Tryz.func95 T95_ok (Eq.mpr (B95_eq chars_p0 w K) h)

-- 94 strings.trimRightByte
def T94 : Ann := (.seq .none (.seq (.block (.loop 4194273 [0] (.seq (.seq .none (.seq .none .none)) (.block .none)))) (.seq .none .none)))
theorem T94_ok : chkFn prog Tryz.f94 T94 = true := by kernel_rfl
def B94 (s_p0 c_p1 : Value) (w : World) (K : Value → World → Prop) : Prop :=
  lp (fun σ w again_1 => pop σ fun s_0 σ => fin σ <|
    pv prog (oBi .len #[9] 3 #[false] #[s_0]) w fun t_2 w =>
    pvv prog (binOp .gtr 3 t_2 (.int .i64 0)) w fun t_3 w =>
    gate (some (t_3, true)) (fun K => K s_0 w) w fun t_4 w =>
    gate (some (t_3, true)) (fun K => K s_0 w) w fun t_5 w =>
    gate (some (t_3, true)) (fun K => pv prog (oBi .len #[9] 3 #[false] #[t_5]) w K) w fun t_6 w =>
    gate (some (t_3, true)) (fun K => pvv prog (binOp .sub 3 t_6 (.int .i64 1)) w K) w fun t_7 w =>
    gate (some (t_3, true)) (fun K => pvv prog (Instr.index 9 t_4 t_7) w K) w fun t_8 w =>
    gate (some (t_3, true)) (fun K => K c_p1 w) w fun t_9 w =>
    gate (some (t_3, true)) (fun K => pvv prog (oEq .eql 5 (.tmp 13) (.tmp 14) t_8 t_9) w K) w fun t_10 w =>
    pv prog (oPick t_3 t_10 (.bool false)) w fun t_11 w =>
    cd t_11 (
      pv prog (oBi .len #[9] 3 #[false] #[s_0]) w fun t_12 w =>
      pvv prog (binOp .sub 3 t_12 (.int .i64 1)) w fun t_13 w =>
      pvv prog (Instr.sliceAt 9 s_0 none (some t_13) none) w fun t_14 w =>
      again_1 [t_14] w) <|
    K s_0 w) [s_p0] w
theorem B94_eq (s_p0 c_p1 : Value) (w : World) (K : Value → World → Prop) : denFn prog Tryz.f94 T94 [s_p0, c_p1] w K = B94 s_p0 c_p1 w K := by kernel_rfl
theorem c94 {s_p0 c_p1 : Value} {w : World} {K : Value → World → Prop} (h : B94 s_p0 c_p1 w K) : Calls prog 94 #[s_p0, c_p1] w (Ret K) :=
  denFn_calls Tryz.func94 T94_ok (Eq.mpr (B94_eq s_p0 c_p1 w K) h)

-- 53 holdfast/codec.IsName
def T53 : Ann := (.seq .none (.seq .none .none))
theorem T53_ok : chkFn prog Tryz.f53 T53 = true := by kernel_rfl
def B53 (s_p0 : Value) (w : World) (K : Value → World → Prop) : Prop :=
  pvv prog (oEq .neq 9 (.tmp 3) (.const (.string ⟨#[]⟩)) s_p0 (.string ⟨#[]⟩)) w fun t_0 w =>
  gate (some (t_0, true)) (fun K => K s_p0 w) w fun t_1 w =>
  gate (some (t_0, true)) (fun K => pv prog (oBi .len #[9] 3 #[false] #[t_1]) w K) w fun t_2 w =>
  gate (some (t_0, true)) (fun K => pvv prog (binOp .leq 3 t_2 (.int .i64 9)) w K) w fun t_3 w =>
  pv prog (oPick t_0 t_3 (.bool false)) w fun t_4 w =>
  gate (some (t_4, true)) (fun K => K s_p0 w) w fun t_5 w =>
  gate (some (t_4, true)) (fun K => Calls prog 71 #[t_5, (.string ⟨#[97, 98, 99, 100, 101, 102, 103, 104, 105, 106, 107, 108, 109, 110, 111, 112, 113, 114, 115, 116, 117, 118, 119, 120, 121, 122, 48, 49, 50, 51, 52, 53, 54, 55, 56, 57, 45]⟩)] w (Ret K)) w fun t_6 w =>
  gate (some (t_4, true)) (fun K => pvv prog (oEq .eql 9 (.tmp 12) (.const (.string ⟨#[]⟩)) t_6 (.string ⟨#[]⟩)) w K) w fun t_7 w =>
  pv prog (oPick t_4 t_7 (.bool false)) w fun t_8 w =>
  K t_8 w
theorem B53_eq (s_p0 : Value) (w : World) (K : Value → World → Prop) : denFn prog Tryz.f53 T53 [s_p0] w K = B53 s_p0 w K := by kernel_rfl
theorem c53 {s_p0 : Value} {w : World} {K : Value → World → Prop} (h : B53 s_p0 w K) : Calls prog 53 #[s_p0] w (Ret K) :=
  denFn_calls Tryz.func53 T53_ok (Eq.mpr (B53_eq s_p0 w K) h)

-- 98 strings.trimLeftUnicode
def T98 : Ann := (.seq .none (.meet 4194273 [0] (.block (.loop 4194273 [0] (.seq (.seq .none (.seq .none .none)) (.block (.seq .none (.seq (.seq .none (.seq .none .none)) .none)))))) (.seq .none .none)))
theorem T98_ok : chkFn prog Tryz.f98 T98 = true := by kernel_rfl
def B98 (s_p0 cutset_p1 : Value) (w : World) (K : Value → World → Prop) : Prop :=
  jn (fun σ w => pop σ fun s_0 σ => fin σ <|
    K s_0 w) fun k_1 =>
  lp (fun σ w again_3 => pop σ fun s_2 σ => fin σ <|
    pv prog (oBi .len #[9] 3 #[false] #[s_2]) w fun t_4 w =>
    pvv prog (binOp .gtr 3 t_4 (.int .i64 0)) w fun t_5 w =>
    cd t_5 (
      Calls prog 122 #[s_2] w (Ret fun t_6 w =>
      pvv prog (Instr.extract t_6 0) w fun t_7 w =>
      pvv prog (Instr.extract t_6 1) w fun t_8 w =>
      Calls prog 123 #[cutset_p1, t_7] w (Ret fun t_9 w =>
      pvv prog (Op.unary .not t_9) w fun t_10 w =>
      cd t_10 (
        k_1 [s_2] w) <|
      pvv prog (Instr.sliceAt 9 s_2 (some t_8) none none) w fun t_11 w =>
      again_3 [t_11] w))) <|
    k_1 [s_2] w) [s_p0] w
theorem B98_eq (s_p0 cutset_p1 : Value) (w : World) (K : Value → World → Prop) : denFn prog Tryz.f98 T98 [s_p0, cutset_p1] w K = B98 s_p0 cutset_p1 w K := by kernel_rfl
theorem c98 {s_p0 cutset_p1 : Value} {w : World} {K : Value → World → Prop} (h : B98 s_p0 cutset_p1 w K) : Calls prog 98 #[s_p0, cutset_p1] w (Ret K) :=
  denFn_calls Tryz.func98 T98_ok (Eq.mpr (B98_eq s_p0 cutset_p1 w K) h)

-- 55 holdfast/seal.eight
def T55 : Ann := (.seq .none (.seq .none (.seq (.seq .none (.block (.loop 2096912 [8] (.seq .none (.seq (.seq .none .none) (.seq (.block (.seq .none .none)) .none)))))) (.seq .none .none))))
theorem T55_ok : chkFn prog Tryz.f55 T55 = true := by kernel_rfl
def B55 (n_p0 : Value) (w : World) (K : Value → World → Prop) : Prop :=
  efv prog (Instr.makeSlice 22 (.int .i64 8) (.int .i64 8)) w fun t_0 w =>
  pv prog (oBi .len #[22] 3 #[false] #[t_0]) w fun t_1 w =>
  lp (fun σ w again_3 => pop σ fun t_2 σ => fin σ <|
    pvv prog (binOp .lss 3 t_2 t_1) w fun t_4 w =>
    cd t_4 (
      pvv prog (binOp .mul 3 (.int .i64 8) t_2) w fun t_5 w =>
      pvv prog (binOp .sub 3 (.int .i64 56) t_5) w fun t_6 w =>
      pvv prog (binOp .shr 79 n_p0 t_6) w fun t_7 w =>
      pvv prog (convert 79 5 t_7) w fun t_8 w =>
      pvv prog (Instr.indexAt 22 t_0 t_2) w fun t_9 w =>
      efu prog (Instr.storeAt 5 t_9 t_8) w fun u_10 w =>
      pvv prog (binOp .add 3 t_2 (.int .i64 1)) w fun t_11 w =>
      again_3 [t_11] w) <|
    K t_0 w) [(.int .i64 0)] w
theorem B55_eq (n_p0 : Value) (w : World) (K : Value → World → Prop) : denFn prog Tryz.f55 T55 [n_p0] w K = B55 n_p0 w K := by kernel_rfl
theorem c55 {n_p0 : Value} {w : World} {K : Value → World → Prop} (h : B55 n_p0 w K) : Calls prog 55 #[n_p0] w (Ret K) :=
  denFn_calls Tryz.func55 T55_ok (Eq.mpr (B55_eq n_p0 w K) h)

-- 122 unicode/utf8.DecodeRuneInString
def T122 : Ann := (.seq .none (.seq (.seq .none (.seq (.seq .none .none) .none)) .none))
theorem T122_ok : chkFn prog Tryz.f122 T122 = true := by kernel_rfl
def B122 (s_p0 : Value) (w : World) (K : Value → World → Prop) : Prop :=
  pvv prog (oEq .neq 9 (.tmp 4) (.const (.string ⟨#[]⟩)) s_p0 (.string ⟨#[]⟩)) w fun t_0 w =>
  gate (some (t_0, true)) (fun K => K s_p0 w) w fun t_1 w =>
  gate (some (t_0, true)) (fun K => pvv prog (Instr.index 9 t_1 (.int .i64 0)) w K) w fun t_2 w =>
  gate (some (t_0, true)) (fun K => pvv prog (binOp .lss 5 t_2 (.int .u8 128)) w K) w fun t_3 w =>
  pv prog (oPick t_0 t_3 (.bool false)) w fun t_4 w =>
  cd t_4 (
    pvv prog (Instr.index 9 s_p0 (.int .i64 0)) w fun t_5 w =>
    pvv prog (convert 5 21 t_5) w fun t_6 w =>
    K (.tuple #[t_6, (.int .i64 1)]) w) <|
  Calls prog 152 #[s_p0] w (Ret fun t_7 w =>
  pvv prog (Instr.extract t_7 0) w fun t_8 w =>
  pvv prog (Instr.extract t_7 1) w fun t_9 w =>
  K (.tuple #[t_8, t_9]) w)
theorem B122_eq (s_p0 : Value) (w : World) (K : Value → World → Prop) : denFn prog Tryz.f122 T122 [s_p0] w K = B122 s_p0 w K := by kernel_rfl
theorem c122 {s_p0 : Value} {w : World} {K : Value → World → Prop} (h : B122 s_p0 w K) : Calls prog 122 #[s_p0] w (Ret K) :=
  denFn_calls Tryz.func122 T122_ok (Eq.mpr (B122_eq s_p0 w K) h)

-- 75 strconv.ParseUint
def T75 : Ann := (.seq .none (.seq .none (.seq (.seq .none (.seq (.seq .none .none) .none)) (.seq .none .none))))
theorem T75_ok : chkFn prog Tryz.f75 T75 = true := by kernel_rfl
def B75 (s_p0 base_p1 bitSize_p2 : Value) (w : World) (K : Value → World → Prop) : Prop :=
  Calls prog 103 #[s_p0, base_p1, bitSize_p2] w (Ret fun t_0 w =>
  pvv prog (Instr.extract t_0 0) w fun t_1 w =>
  pvv prog (Instr.extract t_0 1) w fun t_2 w =>
  pvv prog (oEq .neq 151 (.tmp 17) (.const .nilIface) t_2 .nilIface) w fun t_3 w =>
  cd t_3 (
    Calls prog 104 #[(.string ⟨#[80, 97, 114, 115, 101, 85, 105, 110, 116]⟩), s_p0, base_p1, bitSize_p2, t_2] w (Ret fun t_4 w =>
    K (.tuple #[t_1, t_4]) w)) <|
  K (.tuple #[t_1, .nilIface]) w)
theorem B75_eq (s_p0 base_p1 bitSize_p2 : Value) (w : World) (K : Value → World → Prop) : denFn prog Tryz.f75 T75 [s_p0, base_p1, bitSize_p2] w K = B75 s_p0 base_p1 bitSize_p2 w K := by kernel_rfl
theorem c75 {s_p0 base_p1 bitSize_p2 : Value} {w : World} {K : Value → World → Prop} (h : B75 s_p0 base_p1 bitSize_p2 w K) : Calls prog 75 #[s_p0, base_p1, bitSize_p2] w (Ret K) :=
  denFn_calls Tryz.func75 T75_ok (Eq.mpr (B75_eq s_p0 base_p1 bitSize_p2 w K) h)

-- 15 (*holdfast/audit.Chain).Head
def T15 : Ann := (.seq .none (.seq (.seq .none (.seq (.seq .none .none) .none)) (.seq .none .none)))
theorem T15_ok : chkFn prog Tryz.f15 T15 = true := by kernel_rfl
def B15 (c_p0 : Value) (w : World) (K : Value → World → Prop) : Prop :=
  efv prog (Instr.alloc 28 true (.tuple #[])) w fun t_0 w =>
  pvv prog (oEq .eql 23 (.tmp 3) (.const (.pointer none)) c_p0 (.pointer none)) w fun t_1 w =>
  cd t_1 (
    pvv prog (Instr.build 28 #[]) w fun t_2 w =>
    efu prog (Instr.storeAt 28 t_0 t_2) w fun u_3 w =>
    ∃ r_4, (do loadVar 28 (← asAddr t_0)).run prog w = .ok r_4 w ∧ K r_4 w) <|
  pv prog (oNil c_p0) w fun t_5 w =>
  pvv prog (Instr.fieldAt 69 t_5 2) w fun t_6 w =>
  ldv prog (Instr.loadAt 28 t_6) w fun t_7 w =>
  efu prog (Instr.storeAt 28 t_0 t_7) w fun u_8 w =>
  ∃ r_9, (do loadVar 28 (← asAddr t_0)).run prog w = .ok r_9 w ∧ K r_9 w
theorem B15_eq (c_p0 : Value) (w : World) (K : Value → World → Prop) : denFn prog Tryz.f15 T15 [c_p0] w K = B15 c_p0 w K := by kernel_rfl
theorem c15 {c_p0 : Value} {w : World} {K : Value → World → Prop} (h : B15 c_p0 w K) : Calls prog 15 #[c_p0] w (Ret K) :=
  denFn_calls Tryz.func15 T15_ok (Eq.mpr (B15_eq c_p0 w K) h)

-- 131 strconv.rangeError
def T131 : Ann := (.seq .none (.seq (.draw [.op 0 .pure, .op 1 .pure, .op 3 .load, .op 2 .eff, .op 4 .pure, .op 5 .eff, .op 6 .pure]) .none))
theorem T131_ok : chkFn prog Tryz.f131 T131 = true := by kernel_rfl
def B131 (fn_p0 str_p1 : Value) (w : World) (K : Value → World → Prop) : Prop :=
  dr w fun w =>
  bindS (vN (Instr.loadAt 151 (.pointer (some ⟨2, 0, none⟩)))) fun m_1 => ldv prog (Instr.loadAt 151 (.pointer (some ⟨2, 0, none⟩))) w fun t_0 w =>
  Calls prog 159 #[str_p1] w (Ret fun t_2 w => stay prog none m_1 t_0 w <| 
  pvv prog (Instr.build 236 #[(0, fn_p0), (1, t_2), (2, t_0)]) w fun t_3 w =>
  efv prog (Instr.box 236 t_3) w fun t_4 w => stay prog none m_1 t_0 w <| 
  K t_4 w)
theorem B131_eq (fn_p0 str_p1 : Value) (w : World) (K : Value → World → Prop) : denFn prog Tryz.f131 T131 [fn_p0, str_p1] w K = B131 fn_p0 str_p1 w K := by kernel_rfl
theorem c131 {fn_p0 str_p1 : Value} {w : World} {K : Value → World → Prop} (h : B131 fn_p0 str_p1 w K) : Calls prog 131 #[fn_p0, str_p1] w (Ret K) :=
  denFn_calls Tryz.func131 T131_ok (Eq.mpr (B131_eq fn_p0 str_p1 w K) h)

-- 145 unicode/utf8.RuneCountInString
def T145 : Ann := (.seq .none (.seq (.seq .none (.block (.loop 484 [2] (.seq .none (.seq (.seq .none .none) (.block .none)))))) (.seq .none .none)))
theorem T145_ok : chkFn prog Tryz.f145 T145 = true := by kernel_rfl
def B145 (s_p0 : Value) (w : World) (K : Value → World → Prop) : Prop :=
  efv prog (Instr.range 9 s_p0) w fun t_0 w =>
  lp (fun σ w again_2 => pop σ fun n_1 σ => fin σ <|
    efv prog (Instr.next t_0 true 0) w fun t_3 w =>
    pvv prog (Instr.extract t_3 0) w fun t_4 w =>
    cd t_4 (
      pvv prog (binOp .add 3 n_1 (.int .i64 1)) w fun t_5 w =>
      again_2 [t_5] w) <|
    K n_1 w) [(.int .i64 0)] w
theorem B145_eq (s_p0 : Value) (w : World) (K : Value → World → Prop) : denFn prog Tryz.f145 T145 [s_p0] w K = B145 s_p0 w K := by kernel_rfl
theorem c145 {s_p0 : Value} {w : World} {K : Value → World → Prop} (h : B145 s_p0 w K) : Calls prog 145 #[s_p0] w (Ret K) :=
  denFn_calls Tryz.func145 T145_ok (Eq.mpr (B145_eq s_p0 w K) h)

-- 42 (*holdfast/cred.Book).Rows$1
def T42 : Ann := (.seq .none (.seq .none .none))
theorem T42_ok : chkFn prog Tryz.f42 T42 = true := by kernel_rfl
def B42 (x_p0 y_p1 : Value) (w : World) (K : Value → World → Prop) : Prop :=
  efv prog (Instr.box 41 x_p0) w fun x_0 w =>
  efv prog (Instr.box 41 y_p1) w fun y_1 w =>
  pvv prog (Instr.fieldAt 41 x_0 0) w fun t_2 w =>
  ldv prog (Instr.loadAt 9 t_2) w fun t_3 w =>
  pvv prog (Instr.fieldAt 41 y_1 0) w fun t_4 w =>
  ldv prog (Instr.loadAt 9 t_4) w fun t_5 w =>
  Calls prog 43 #[t_3, t_5] w (Ret fun t_6 w =>
  K t_6 w)
theorem B42_eq (x_p0 y_p1 : Value) (w : World) (K : Value → World → Prop) : denFn prog Tryz.f42 T42 [x_p0, y_p1] w K = B42 x_p0 y_p1 w K := by kernel_rfl
theorem c42 {x_p0 y_p1 : Value} {w : World} {K : Value → World → Prop} (h : B42 x_p0 y_p1 w K) : Calls prog 42 #[x_p0, y_p1] w (Ret K) :=
  denFn_calls Tryz.func42 T42_ok (Eq.mpr (B42_eq x_p0 y_p1 w K) h)

-- 91 internal/stringslite.TrimPrefix
def T91 : Ann := (.seq .none (.seq (.seq .none (.seq (.seq .none .none) .none)) (.seq .none .none)))
theorem T91_ok : chkFn prog Tryz.f91 T91 = true := by kernel_rfl
def B91 (s_p0 prefix_p1 : Value) (w : World) (K : Value → World → Prop) : Prop :=
  Calls prog 102 #[s_p0, prefix_p1] w (Ret fun t_0 w =>
  cd t_0 (
    pv prog (oBi .len #[9] 3 #[false] #[prefix_p1]) w fun t_1 w =>
    pvv prog (Instr.sliceAt 9 s_p0 (some t_1) none none) w fun t_2 w =>
    K t_2 w) <|
  K s_p0 w)
theorem B91_eq (s_p0 prefix_p1 : Value) (w : World) (K : Value → World → Prop) : denFn prog Tryz.f91 T91 [s_p0, prefix_p1] w K = B91 s_p0 prefix_p1 w K := by kernel_rfl
theorem c91 {s_p0 prefix_p1 : Value} {w : World} {K : Value → World → Prop} (h : B91 s_p0 prefix_p1 w K) : Calls prog 91 #[s_p0, prefix_p1] w (Ret K) :=
  denFn_calls Tryz.func91 T91_ok (Eq.mpr (B91_eq s_p0 prefix_p1 w K) h)

-- 151 math/bits.TrailingZeros
def T151 : Ann := (.seq .none (.seq (.seq (.seq .none .none) .none) (.seq .none .none)))
theorem T151_ok : chkFn prog Tryz.f151 T151 = true := by kernel_rfl
def B151 (x_p0 : Value) (w : World) (K : Value → World → Prop) : Prop :=
  cd (.bool false) (
    pvv prog (convert 80 74 x_p0) w fun t_0 w =>
    Calls prog 178 #[t_0] w (Ret fun t_1 w =>
    K t_1 w)) <|
  Calls prog 179 #[x_p0] w (Ret fun t_2 w =>
  K t_2 w)
theorem B151_eq (x_p0 : Value) (w : World) (K : Value → World → Prop) : denFn prog Tryz.f151 T151 [x_p0] w K = B151 x_p0 w K := by kernel_rfl
theorem c151 {x_p0 : Value} {w : World} {K : Value → World → Prop} (h : B151 x_p0 w K) : Calls prog 151 #[x_p0] w (Ret K) :=
  denFn_calls Tryz.func151 T151_ok (Eq.mpr (B151_eq x_p0 w K) h)

-- 100 strings.ReplaceAll
def T100 : Ann := (.seq .none (.seq .none .none))
theorem T100_ok : chkFn prog Tryz.f100 T100 = true := by kernel_rfl
def B100 (s_p0 old_p1 new_p2 : Value) (w : World) (K : Value → World → Prop) : Prop :=
  Calls prog 125 #[s_p0, old_p1, new_p2, (.int .i64 (-1))] w (Ret fun t_0 w =>
  K t_0 w)
theorem B100_eq (s_p0 old_p1 new_p2 : Value) (w : World) (K : Value → World → Prop) : denFn prog Tryz.f100 T100 [s_p0, old_p1, new_p2] w K = B100 s_p0 old_p1 new_p2 w K := by kernel_rfl
theorem c100 {s_p0 old_p1 new_p2 : Value} {w : World} {K : Value → World → Prop} (h : B100 s_p0 old_p1 new_p2 w K) : Calls prog 100 #[s_p0, old_p1, new_p2] w (Ret K) :=
  denFn_calls Tryz.func100 T100_ok (Eq.mpr (B100_eq s_p0 old_p1 new_p2 w K) h)

-- 160 errors.New
def T160 : Ann := (.seq .none (.seq .none .none))
theorem T160_ok : chkFn prog Tryz.f160 T160 = true := by kernel_rfl
def B160 (text_p0 : Value) (w : World) (K : Value → World → Prop) : Prop :=
  pvv prog (Instr.build 253 #[(0, text_p0)]) w fun t_0 w =>
  efv prog (Instr.box 253 t_0) w fun t_1 w =>
  pvv prog (Instr.makeInterface 251 t_1) w fun t_2 w =>
  K t_2 w
theorem B160_eq (text_p0 : Value) (w : World) (K : Value → World → Prop) : denFn prog Tryz.f160 T160 [text_p0] w K = B160 text_p0 w K := by kernel_rfl
theorem c160 {text_p0 : Value} {w : World} {K : Value → World → Prop} (h : B160 text_p0 w K) : Calls prog 160 #[text_p0] w (Ret K) :=
  denFn_calls Tryz.func160 T160_ok (Eq.mpr (B160_eq text_p0 w K) h)

-- 116 strings.Index
def T116 : Ann := (.seq .none (.seq .none .none))
theorem T116_ok : chkFn prog Tryz.f116 T116 = true := by kernel_rfl
def B116 (s_p0 substr_p1 : Value) (w : World) (K : Value → World → Prop) : Prop :=
  Calls prog 147 #[s_p0, substr_p1] w (Ret fun t_0 w =>
  K t_0 w)
theorem B116_eq (s_p0 substr_p1 : Value) (w : World) (K : Value → World → Prop) : denFn prog Tryz.f116 T116 [s_p0, substr_p1] w K = B116 s_p0 substr_p1 w K := by kernel_rfl
theorem c116 {s_p0 substr_p1 : Value} {w : World} {K : Value → World → Prop} (h : B116 s_p0 substr_p1 w K) : Calls prog 116 #[s_p0, substr_p1] w (Ret K) :=
  denFn_calls Tryz.func116 T116_ok (Eq.mpr (B116_eq s_p0 substr_p1 w K) h)

-- 69 strings.TrimPrefix
def T69 : Ann := (.seq .none (.seq .none .none))
theorem T69_ok : chkFn prog Tryz.f69 T69 = true := by kernel_rfl
def B69 (s_p0 prefix_p1 : Value) (w : World) (K : Value → World → Prop) : Prop :=
  Calls prog 91 #[s_p0, prefix_p1] w (Ret fun t_0 w =>
  K t_0 w)
theorem B69_eq (s_p0 prefix_p1 : Value) (w : World) (K : Value → World → Prop) : denFn prog Tryz.f69 T69 [s_p0, prefix_p1] w K = B69 s_p0 prefix_p1 w K := by kernel_rfl
theorem c69 {s_p0 prefix_p1 : Value} {w : World} {K : Value → World → Prop} (h : B69 s_p0 prefix_p1 w K) : Calls prog 69 #[s_p0, prefix_p1] w (Ret K) :=
  denFn_calls Tryz.func69 T69_ok (Eq.mpr (B69_eq s_p0 prefix_p1 w K) h)

-- 149 internal/strconv.bool2[int]
def T149 : Ann := (.seq .none (.seq (.seq .none (.seq (.seq .none .none) .none)) (.seq .none .none)))
theorem T149_ok : chkFn prog Tryz.f149 T149 = true := by kernel_rfl
def B149 (b_p0 : Value) (w : World) (K : Value → World → Prop) : Prop :=
  cd b_p0 (
    K (.int .i64 1) w) <|
  K (.int .i64 0) w
theorem B149_eq (b_p0 : Value) (w : World) (K : Value → World → Prop) : denFn prog Tryz.f149 T149 [b_p0] w K = B149 b_p0 w K := by kernel_rfl
theorem c149 {b_p0 : Value} {w : World} {K : Value → World → Prop} (h : B149 b_p0 w K) : Calls prog 149 #[b_p0] w (Ret K) :=
  denFn_calls Tryz.func149 T149_ok (Eq.mpr (B149_eq b_p0 w K) h)

-- 70 strconv.FormatInt
def T70 : Ann := (.seq .none (.seq .none .none))
theorem T70_ok : chkFn prog Tryz.f70 T70 = true := by kernel_rfl
def B70 (i_p0 base_p1 : Value) (w : World) (K : Value → World → Prop) : Prop :=
  Calls prog 92 #[i_p0, base_p1] w (Ret fun t_0 w =>
  K t_0 w)
theorem B70_eq (i_p0 base_p1 : Value) (w : World) (K : Value → World → Prop) : denFn prog Tryz.f70 T70 [i_p0, base_p1] w K = B70 i_p0 base_p1 w K := by kernel_rfl
theorem c70 {i_p0 base_p1 : Value} {w : World} {K : Value → World → Prop} (h : B70 i_p0 base_p1 w K) : Calls prog 70 #[i_p0, base_p1] w (Ret K) :=
  denFn_calls Tryz.func70 T70_ok (Eq.mpr (B70_eq i_p0 base_p1 w K) h)

-- 161 strconv.Itoa
def T161 : Ann := (.seq .none (.seq .none .none))
theorem T161_ok : chkFn prog Tryz.f161 T161 = true := by kernel_rfl
def B161 (i_p0 : Value) (w : World) (K : Value → World → Prop) : Prop :=
  Calls prog 184 #[i_p0] w (Ret fun t_0 w =>
  K t_0 w)
theorem B161_eq (i_p0 : Value) (w : World) (K : Value → World → Prop) : denFn prog Tryz.f161 T161 [i_p0] w K = B161 i_p0 w K := by kernel_rfl
theorem c161 {i_p0 : Value} {w : World} {K : Value → World → Prop} (h : B161 i_p0 w K) : Calls prog 161 #[i_p0] w (Ret K) :=
  denFn_calls Tryz.func161 T161_ok (Eq.mpr (B161_eq i_p0 w K) h)


end Go.Proofs.YtmnaalpjhkkglaaGreatDoor
