import Derived.Test.YtjmgkfpjaelilaaDoorPI
set_option linter.all false
set_option maxRecDepth 100000
namespace Go.Proofs.YtjmgkfpjaelilaaDoor
open Go Hold
-- 16 holdfast/holdfastref07.Sum
def T16 : Ann := (.seq .none (.seq .none (.seq .none (.seq .none (.seq .none (.seq (.block (.loop 545460846624 [5] (.seq (.seq .none (.seq .none .none)) (.block .none)))) (.seq .none (.seq (.seq .none (.block (.loop 72048797944905888 [5, 7] (.seq (.seq .none (.seq .none .none)) (.seq (.block .none) .none))))) (.seq (.seq .none (.block (.loop 1897137590064188545819787018382342682267975428761855001222473056313591121991171840 [8] (.seq (.seq .none (.seq .none .none)) (.seq (.block (.seq .none (.seq (.seq .none (.block (.loop 1237940030062008238044351488 [10] (.seq (.seq .none (.seq .none .none)) (.seq (.block (.seq .none (.block (.loop 1237939891711427685222713344 [11] (.seq (.seq .none (.seq .none .none)) (.seq (.block (.draw [(0, .pure), (1, .pure), (2, .pure), (3, .pure), (4, .pure), (7, .pure), (8, .pure), (9, .pure), (10, .pure), (11, .pure), (12, .pure), (13, .pure), (14, .pure), (5, .load), (6, .pure), (15, .load), (16, .pure), (17, .pure), (18, .pure), (19, .eff)])) .none)))))) .none))))) (.seq (.seq .none (.block (.loop 87112285931759008706584614122257763037184 [12] (.seq (.seq .none (.seq .none .none)) (.seq (.block (.seq (.draw [(0, .pure), (1, .pure), (2, .pure), (3, .pure), (5, .pure), (6, .pure), (7, .pure), (8, .pure), (4, .load), (10, .pure), (9, .load), (11, .pure)]) (.draw [(0, .pure), (1, .pure), (2, .pure), (3, .pure), (4, .pure), (5, .pure), (7, .pure), (9, .pure), (12, .pure), (13, .pure), (16, .pure), (17, .pure), (18, .pure), (19, .pure), (22, .pure), (24, .pure), (27, .pure), (28, .pure), (6, .load), (20, .load), (8, .eff), (10, .eff), (11, .pure), (14, .pure), (15, .pure), (21, .pure), (23, .eff), (25, .eff), (26, .pure), (29, .pure), (30, .pure), (31, .pure), (32, .eff)]))) .none))))) (.seq .none (.seq .none (.seq (.seq .none (.block (.loop 115792089237316195423570985008687907156371697211558590866466387987651836739584 [15, 16] (.seq (.seq .none (.seq .none .none)) (.seq (.block (.seq (.draw [(0, .pure), (1, .pure), (4, .pure), (5, .pure), (9, .pure), (10, .pure), (2, .load), (6, .load), (11, .load), (3, .eff), (7, .eff), (8, .pure), (12, .eff), (13, .pure), (14, .pure)]) (.seq (.draw [(0, .pure), (1, .pure), (3, .pure), (4, .pure), (7, .pure), (8, .pure), (11, .pure), (12, .pure), (2, .load), (5, .load), (6, .pure), (9, .load), (10, .pure), (13, .load), (14, .pure), (15, .pure), (16, .pure)]) (.seq (.draw [(0, .pure), (1, .pure), (3, .pure), (5, .pure), (7, .pure), (8, .pure), (9, .pure), (12, .pure), (13, .pure), (14, .pure), (2, .load), (4, .pure), (6, .pure), (10, .load), (11, .pure), (15, .load), (16, .pure), (17, .pure)]) (.seq (.draw [(0, .pure), (1, .pure), (4, .pure), (5, .pure), (9, .pure), (10, .pure), (2, .load), (6, .load), (11, .load), (3, .eff), (7, .eff), (8, .pure), (12, .eff), (13, .pure), (14, .pure)]) (.seq (.draw [(0, .pure), (1, .pure), (3, .pure), (4, .pure), (7, .pure), (8, .pure), (10, .pure), (11, .pure), (15, .pure), (16, .pure), (18, .pure), (19, .pure), (2, .load), (5, .load), (6, .pure), (9, .load), (12, .load), (13, .pure), (14, .pure), (17, .load), (20, .load), (21, .pure), (22, .pure), (23, .pure)]) (.draw [(0, .pure), (1, .pure), (2, .pure), (3, .pure), (4, .pure), (5, .pure), (6, .pure), (8, .pure), (9, .pure), (11, .pure), (12, .pure), (14, .pure), (15, .pure), (17, .pure), (19, .pure), (20, .pure), (22, .pure), (23, .pure), (25, .pure), (26, .pure), (7, .load), (10, .load), (13, .load), (16, .load), (18, .pure), (21, .load), (24, .load), (27, .load), (28, .eff), (29, .pure)]))))))) .none))))) (.seq .none (.block (.loop 1897021797974951229624363447397333994360122158777189360658433598801640802895265792 [22] (.seq (.seq .none (.seq .none .none)) (.seq (.block (.draw [(0, .pure), (1, .pure), (2, .pure), (4, .pure), (5, .pure), (6, .pure), (3, .load), (7, .load), (8, .pure), (9, .pure), (10, .eff)])) .none)))))))))))) .none))))) (.seq .none (.seq (.seq .none (.block (.loop 248659721067303256889145304286392037707545807423245096865230765973523362857550683832320 [24] (.seq (.seq .none (.seq .none .none)) (.seq (.block .none) .none))))) (.seq .none .none))))))))))))
theorem T16_ok : chkFn prog Tryd.f16 T16 = true := by kernel_rfl
def B16 (b_p0 : Value) (w : World) (K : Value → World → Prop) : Prop :=
  efv prog (Instr.alloc 23 true (.tuple #[])) w fun t_0 w =>
  efv prog (Instr.buildSlice 58 8 #[(0, (.int .u32 1779033703)), (1, (.int .u32 3144134277)), (2, (.int .u32 1013904242)), (3, (.int .u32 2773480762)), (4, (.int .u32 1359893119)), (5, (.int .u32 2600822924)), (6, (.int .u32 528734635)), (7, (.int .u32 1541459225))]) w fun t_1 w =>
  Calls prog 23 #[] w (Ret fun t_2 w =>
  ef prog (oBi .append #[25, 25] 25 #[false, false] #[(.slice none 0 0), b_p0]) w fun t_3 w =>
  efv prog (Instr.buildSlice 25 1 #[(0, (.int .u8 128))]) w fun t_4 w =>
  ef prog (oBi .append #[25, 25] 25 #[false, false] #[t_3, t_4]) w fun t_5 w =>
  lp (fun σ w again_7 => pop σ fun m_6 σ => fin σ <|
    pv prog (oBi .len #[25] 3 #[false] #[m_6]) w fun t_8 w =>
    pvv prog (binOp .rem 3 t_8 (.int .i64 64)) w fun t_9 w =>
    pvv prog (oEq .neq 3 (.tmp 34) (.const (.int .i64 56)) t_9 (.int .i64 56)) w fun t_10 w =>
    cd t_10 (
      efv prog (Instr.buildSlice 25 1 #[(0, (.int .u8 0))]) w fun t_11 w =>
      ef prog (oBi .append #[25, 25] 25 #[false, false] #[m_6, t_11]) w fun t_12 w =>
      again_7 [t_12] w) <|
    pv prog (oBi .len #[25] 3 #[false] #[b_p0]) w fun t_13 w =>
    pvv prog (convert 3 55 t_13) w fun t_14 w =>
    pvv prog (binOp .mul 55 t_14 (.int .u64 8)) w fun t_15 w =>
    lp (fun σ w again_18 => pop σ fun m_16 σ => pop σ fun i_17 σ => fin σ <|
      pvv prog (binOp .lss 3 i_17 (.int .i64 8)) w fun t_19 w =>
      cd t_19 (
        pvv prog (binOp .mul 3 (.int .i64 8) i_17) w fun t_20 w =>
        pvv prog (binOp .sub 3 (.int .i64 56) t_20) w fun t_21 w =>
        pvv prog (binOp .shr 55 t_15 t_21) w fun t_22 w =>
        pvv prog (convert 55 5 t_22) w fun t_23 w =>
        efv prog (Instr.buildSlice 25 1 #[(0, t_23)]) w fun t_24 w =>
        ef prog (oBi .append #[25, 25] 25 #[false, false] #[m_16, t_24]) w fun t_25 w =>
        pvv prog (binOp .add 3 i_17 (.int .i64 1)) w fun t_26 w =>
        again_18 [t_25, t_26] w) <|
      lp (fun σ w again_28 => pop σ fun at_27 σ => fin σ <|
        pv prog (oBi .len #[25] 3 #[false] #[m_16]) w fun t_29 w =>
        pvv prog (binOp .lss 3 at_27 t_29) w fun t_30 w =>
        cd t_30 (
          efv prog (Instr.makeSlice 58 (.int .i64 64) (.int .i64 64)) w fun t_31 w =>
          lp (fun σ w again_33 => pop σ fun i_32 σ => fin σ <|
            pvv prog (binOp .lss 3 i_32 (.int .i64 16)) w fun t_34 w =>
            cd t_34 (
              lp (fun σ w again_36 => pop σ fun j_35 σ => fin σ <|
                pvv prog (binOp .lss 3 j_35 (.int .i64 4)) w fun t_37 w =>
                cd t_37 (
                  dr w fun w =>
                  pvv prog (Instr.indexAt 58 t_31 i_32) w fun t_38 w =>
                  pvv prog (binOp .mul 3 (.int .i64 4) i_32) w fun t_39 w =>
                  pvv prog (binOp .add 3 at_27 t_39) w fun t_40 w =>
                  pvv prog (binOp .add 3 t_40 j_35) w fun t_41 w =>
                  pvv prog (Instr.indexAt 25 m_16 t_41) w fun t_42 w =>
                  bindS (vN (Instr.loadAt 50 t_38)) fun m_44 => ldv prog (Instr.loadAt 50 t_38) w fun t_43 w =>
                  pvv prog (binOp .shl 50 t_43 (.int .u64 8)) w fun t_45 w =>
                  bindS (vN (Instr.loadAt 5 t_42)) fun m_47 => ldv prog (Instr.loadAt 5 t_42) w fun t_46 w =>
                  pvv prog (convert 5 50 t_46) w fun t_48 w =>
                  pvv prog (binOp .or 50 t_45 t_48) w fun t_49 w =>
                  pvv prog (Instr.indexAt 58 t_31 i_32) w fun t_50 w =>
                  efu prog (Instr.storeAt 50 t_50 t_49) w fun u_51 w =>
                  pvv prog (binOp .add 3 j_35 (.int .i64 1)) w fun t_52 w =>
                  again_36 [t_52] w) <|
                pvv prog (binOp .add 3 i_32 (.int .i64 1)) w fun t_54 w =>
                again_33 [t_54] w) [(.int .i64 0)] w) <|
            lp (fun σ w again_56 => pop σ fun i_55 σ => fin σ <|
              pvv prog (binOp .lss 3 i_55 (.int .i64 64)) w fun t_57 w =>
              cd t_57 (
                dr w fun w =>
                pvv prog (binOp .sub 3 i_55 (.int .i64 15)) w fun t_58 w =>
                pvv prog (Instr.indexAt 58 t_31 t_58) w fun t_59 w =>
                pvv prog (binOp .sub 3 i_55 (.int .i64 2)) w fun t_60 w =>
                pvv prog (Instr.indexAt 58 t_31 t_60) w fun t_61 w =>
                bindS (vN (Instr.loadAt 50 t_59)) fun m_63 => ldv prog (Instr.loadAt 50 t_59) w fun t_62 w =>
                bindS (vN (Instr.loadAt 50 t_61)) fun m_65 => ldv prog (Instr.loadAt 50 t_61) w fun t_64 w =>
                dr w fun w =>
                pvv prog (binOp .sub 3 i_55 (.int .i64 16)) w fun t_66 w =>
                pvv prog (Instr.indexAt 58 t_31 t_66) w fun t_67 w =>
                pvv prog (binOp .shr 50 t_62 (.int .u64 3)) w fun t_68 w =>
                pvv prog (binOp .sub 3 i_55 (.int .i64 7)) w fun t_69 w =>
                pvv prog (Instr.indexAt 58 t_31 t_69) w fun t_70 w =>
                pvv prog (binOp .shr 50 t_64 (.int .u64 10)) w fun t_71 w =>
                bindS (vN (Instr.loadAt 50 t_67)) fun m_73 => ldv prog (Instr.loadAt 50 t_67) w fun t_72 w =>
                bindS (vN (Instr.loadAt 50 t_70)) fun m_75 => ldv prog (Instr.loadAt 50 t_70) w fun t_74 w =>
                Calls prog 24 #[t_62, (.int .i64 7)] w (Ret fun t_76 w => stay prog none m_75 t_74 w <| stay prog none m_73 t_72 w <| 
                Calls prog 24 #[t_62, (.int .i64 18)] w (Ret fun t_77 w => stay prog none m_75 t_74 w <| stay prog none m_73 t_72 w <| 
                pvv prog (binOp .xor 50 t_76 t_77) w fun t_78 w =>
                pvv prog (binOp .xor 50 t_78 t_68) w fun t_79 w =>
                pvv prog (binOp .add 50 t_72 t_79) w fun t_80 w =>
                pvv prog (binOp .add 50 t_80 t_74) w fun t_81 w =>
                Calls prog 24 #[t_64, (.int .i64 17)] w (Ret fun t_82 w => stay prog none m_75 t_74 w <| stay prog none m_73 t_72 w <| 
                Calls prog 24 #[t_64, (.int .i64 19)] w (Ret fun t_83 w => stay prog none m_75 t_74 w <| stay prog none m_73 t_72 w <| 
                pvv prog (binOp .xor 50 t_82 t_83) w fun t_84 w =>
                pvv prog (binOp .xor 50 t_84 t_71) w fun t_85 w =>
                pvv prog (binOp .add 50 t_81 t_85) w fun t_86 w =>
                pvv prog (Instr.indexAt 58 t_31 i_55) w fun t_87 w =>
                efu prog (Instr.storeAt 50 t_87 t_86) w fun u_88 w =>
                pvv prog (binOp .add 3 i_55 (.int .i64 1)) w fun t_89 w =>
                again_56 [t_89] w))))) <|
              ef prog (oBi .append #[58, 58] 58 #[false, false] #[(.slice none 0 0), t_1]) w fun t_95 w =>
              lp (fun σ w again_98 => pop σ fun v_96 σ => pop σ fun i_97 σ => fin σ <|
                pvv prog (binOp .lss 3 i_97 (.int .i64 64)) w fun t_99 w =>
                cd t_99 (
                  dr w fun w =>
                  pvv prog (Instr.indexAt 58 v_96 (.int .i64 4)) w fun t_100 w =>
                  pvv prog (Instr.indexAt 58 v_96 (.int .i64 4)) w fun t_101 w =>
                  pvv prog (Instr.indexAt 58 v_96 (.int .i64 4)) w fun t_102 w =>
                  bindS (vN (Instr.loadAt 50 t_100)) fun m_104 => ldv prog (Instr.loadAt 50 t_100) w fun t_103 w =>
                  bindS (vN (Instr.loadAt 50 t_101)) fun m_106 => ldv prog (Instr.loadAt 50 t_101) w fun t_105 w =>
                  bindS (vN (Instr.loadAt 50 t_102)) fun m_108 => ldv prog (Instr.loadAt 50 t_102) w fun t_107 w =>
                  Calls prog 24 #[t_103, (.int .i64 6)] w (Ret fun t_109 w => stay prog none m_108 t_107 w <| stay prog none m_106 t_105 w <| 
                  Calls prog 24 #[t_105, (.int .i64 11)] w (Ret fun t_110 w => stay prog none m_108 t_107 w <| stay prog none m_104 t_103 w <| 
                  pvv prog (binOp .xor 50 t_109 t_110) w fun t_111 w =>
                  Calls prog 24 #[t_107, (.int .i64 25)] w (Ret fun t_112 w => stay prog none m_106 t_105 w <| stay prog none m_104 t_103 w <| 
                  pvv prog (binOp .xor 50 t_111 t_112) w fun t_113 w =>
                  dr w fun w =>
                  pvv prog (Instr.indexAt 58 v_96 (.int .i64 4)) w fun t_114 w =>
                  pvv prog (Instr.indexAt 58 v_96 (.int .i64 5)) w fun t_115 w =>
                  pvv prog (Instr.indexAt 58 v_96 (.int .i64 4)) w fun t_116 w =>
                  pvv prog (Instr.indexAt 58 v_96 (.int .i64 6)) w fun t_117 w =>
                  bindS (vN (Instr.loadAt 50 t_114)) fun m_119 => ldv prog (Instr.loadAt 50 t_114) w fun t_118 w =>
                  bindS (vN (Instr.loadAt 50 t_115)) fun m_121 => ldv prog (Instr.loadAt 50 t_115) w fun t_120 w =>
                  pvv prog (binOp .and 50 t_118 t_120) w fun t_122 w =>
                  bindS (vN (Instr.loadAt 50 t_116)) fun m_124 => ldv prog (Instr.loadAt 50 t_116) w fun t_123 w =>
                  pvv prog (Op.unary .xor t_123) w fun t_125 w =>
                  bindS (vN (Instr.loadAt 50 t_117)) fun m_127 => ldv prog (Instr.loadAt 50 t_117) w fun t_126 w =>
                  pvv prog (binOp .and 50 t_125 t_126) w fun t_128 w =>
                  pvv prog (binOp .xor 50 t_122 t_128) w fun t_129 w =>
                  dr w fun w =>
                  pvv prog (Instr.indexAt 58 v_96 (.int .i64 7)) w fun t_130 w =>
                  pvv prog (Instr.indexAt 58 t_2 i_97) w fun t_131 w =>
                  pvv prog (Instr.indexAt 58 t_31 i_97) w fun t_132 w =>
                  bindS (vN (Instr.loadAt 50 t_130)) fun m_134 => ldv prog (Instr.loadAt 50 t_130) w fun t_133 w =>
                  pvv prog (binOp .add 50 t_133 t_113) w fun t_135 w =>
                  pvv prog (binOp .add 50 t_135 t_129) w fun t_136 w =>
                  bindS (vN (Instr.loadAt 50 t_131)) fun m_138 => ldv prog (Instr.loadAt 50 t_131) w fun t_137 w =>
                  pvv prog (binOp .add 50 t_136 t_137) w fun t_139 w =>
                  bindS (vN (Instr.loadAt 50 t_132)) fun m_141 => ldv prog (Instr.loadAt 50 t_132) w fun t_140 w =>
                  pvv prog (binOp .add 50 t_139 t_140) w fun t_142 w =>
                  dr w fun w =>
                  pvv prog (Instr.indexAt 58 v_96 (.int .i64 0)) w fun t_143 w =>
                  pvv prog (Instr.indexAt 58 v_96 (.int .i64 0)) w fun t_144 w =>
                  pvv prog (Instr.indexAt 58 v_96 (.int .i64 0)) w fun t_145 w =>
                  bindS (vN (Instr.loadAt 50 t_143)) fun m_147 => ldv prog (Instr.loadAt 50 t_143) w fun t_146 w =>
                  bindS (vN (Instr.loadAt 50 t_144)) fun m_149 => ldv prog (Instr.loadAt 50 t_144) w fun t_148 w =>
                  bindS (vN (Instr.loadAt 50 t_145)) fun m_151 => ldv prog (Instr.loadAt 50 t_145) w fun t_150 w =>
                  Calls prog 24 #[t_146, (.int .i64 2)] w (Ret fun t_152 w => stay prog none m_151 t_150 w <| stay prog none m_149 t_148 w <| 
                  Calls prog 24 #[t_148, (.int .i64 13)] w (Ret fun t_153 w => stay prog none m_151 t_150 w <| stay prog none m_147 t_146 w <| 
                  pvv prog (binOp .xor 50 t_152 t_153) w fun t_154 w =>
                  Calls prog 24 #[t_150, (.int .i64 22)] w (Ret fun t_155 w => stay prog none m_149 t_148 w <| stay prog none m_147 t_146 w <| 
                  pvv prog (binOp .xor 50 t_154 t_155) w fun t_156 w =>
                  dr w fun w =>
                  pvv prog (Instr.indexAt 58 v_96 (.int .i64 0)) w fun t_157 w =>
                  pvv prog (Instr.indexAt 58 v_96 (.int .i64 1)) w fun t_158 w =>
                  pvv prog (Instr.indexAt 58 v_96 (.int .i64 0)) w fun t_159 w =>
                  pvv prog (Instr.indexAt 58 v_96 (.int .i64 2)) w fun t_160 w =>
                  pvv prog (Instr.indexAt 58 v_96 (.int .i64 1)) w fun t_161 w =>
                  pvv prog (Instr.indexAt 58 v_96 (.int .i64 2)) w fun t_162 w =>
                  bindS (vN (Instr.loadAt 50 t_157)) fun m_164 => ldv prog (Instr.loadAt 50 t_157) w fun t_163 w =>
                  bindS (vN (Instr.loadAt 50 t_158)) fun m_166 => ldv prog (Instr.loadAt 50 t_158) w fun t_165 w =>
                  pvv prog (binOp .and 50 t_163 t_165) w fun t_167 w =>
                  bindS (vN (Instr.loadAt 50 t_159)) fun m_169 => ldv prog (Instr.loadAt 50 t_159) w fun t_168 w =>
                  bindS (vN (Instr.loadAt 50 t_160)) fun m_171 => ldv prog (Instr.loadAt 50 t_160) w fun t_170 w =>
                  pvv prog (binOp .and 50 t_168 t_170) w fun t_172 w =>
                  pvv prog (binOp .xor 50 t_167 t_172) w fun t_173 w =>
                  bindS (vN (Instr.loadAt 50 t_161)) fun m_175 => ldv prog (Instr.loadAt 50 t_161) w fun t_174 w =>
                  bindS (vN (Instr.loadAt 50 t_162)) fun m_177 => ldv prog (Instr.loadAt 50 t_162) w fun t_176 w =>
                  pvv prog (binOp .and 50 t_174 t_176) w fun t_178 w =>
                  pvv prog (binOp .xor 50 t_173 t_178) w fun t_179 w =>
                  dr w fun w =>
                  pvv prog (binOp .add 50 t_142 t_156) w fun t_180 w =>
                  pvv prog (binOp .add 50 t_180 t_179) w fun t_181 w =>
                  pvv prog (Instr.indexAt 58 v_96 (.int .i64 0)) w fun t_182 w =>
                  pvv prog (Instr.indexAt 58 v_96 (.int .i64 1)) w fun t_183 w =>
                  pvv prog (Instr.indexAt 58 v_96 (.int .i64 2)) w fun t_184 w =>
                  pvv prog (Instr.indexAt 58 v_96 (.int .i64 3)) w fun t_185 w =>
                  pvv prog (Instr.indexAt 58 v_96 (.int .i64 4)) w fun t_186 w =>
                  pvv prog (Instr.indexAt 58 v_96 (.int .i64 5)) w fun t_187 w =>
                  pvv prog (Instr.indexAt 58 v_96 (.int .i64 6)) w fun t_188 w =>
                  bindS (vN (Instr.loadAt 50 t_182)) fun m_190 => ldv prog (Instr.loadAt 50 t_182) w fun t_189 w =>
                  bindS (vN (Instr.loadAt 50 t_183)) fun m_192 => ldv prog (Instr.loadAt 50 t_183) w fun t_191 w =>
                  bindS (vN (Instr.loadAt 50 t_184)) fun m_194 => ldv prog (Instr.loadAt 50 t_184) w fun t_193 w =>
                  bindS (vN (Instr.loadAt 50 t_185)) fun m_196 => ldv prog (Instr.loadAt 50 t_185) w fun t_195 w =>
                  pvv prog (binOp .add 50 t_195 t_142) w fun t_197 w =>
                  bindS (vN (Instr.loadAt 50 t_186)) fun m_199 => ldv prog (Instr.loadAt 50 t_186) w fun t_198 w =>
                  bindS (vN (Instr.loadAt 50 t_187)) fun m_201 => ldv prog (Instr.loadAt 50 t_187) w fun t_200 w =>
                  bindS (vN (Instr.loadAt 50 t_188)) fun m_203 => ldv prog (Instr.loadAt 50 t_188) w fun t_202 w =>
                  efv prog (Instr.buildSlice 58 8 #[(0, t_181), (1, t_189), (2, t_191), (3, t_193), (4, t_197), (5, t_198), (6, t_200), (7, t_202)]) w fun t_204 w => stay prog none m_196 t_195 w <| 
                  pvv prog (binOp .add 3 i_97 (.int .i64 1)) w fun t_205 w =>
                  again_98 [t_204, t_205] w))))))) <|
                lp (fun σ w again_214 => pop σ fun i_213 σ => fin σ <|
                  pvv prog (binOp .lss 3 i_213 (.int .i64 8)) w fun t_215 w =>
                  cd t_215 (
                    dr w fun w =>
                    pvv prog (Instr.indexAt 58 t_1 i_213) w fun t_216 w =>
                    pvv prog (Instr.indexAt 58 v_96 i_213) w fun t_217 w =>
                    bindS (vN (Instr.loadAt 50 t_216)) fun m_219 => ldv prog (Instr.loadAt 50 t_216) w fun t_218 w =>
                    bindS (vN (Instr.loadAt 50 t_217)) fun m_221 => ldv prog (Instr.loadAt 50 t_217) w fun t_220 w =>
                    pvv prog (binOp .add 50 t_218 t_220) w fun t_222 w =>
                    pvv prog (Instr.indexAt 58 t_1 i_213) w fun t_223 w =>
                    efu prog (Instr.storeAt 50 t_223 t_222) w fun u_224 w =>
                    pvv prog (binOp .add 3 i_213 (.int .i64 1)) w fun t_225 w =>
                    again_214 [t_225] w) <|
                  pvv prog (binOp .add 3 at_27 (.int .i64 64)) w fun t_227 w =>
                  again_28 [t_227] w) [(.int .i64 0)] w) [t_95, (.int .i64 0)] w) [(.int .i64 16)] w) [(.int .i64 0)] w) <|
        efv prog (Instr.alloc 23 true (.tuple #[])) w fun out_228 w =>
        lp (fun σ w again_230 => pop σ fun i_229 σ => fin σ <|
          pvv prog (binOp .lss 3 i_229 (.int .i64 32)) w fun t_231 w =>
          cd t_231 (
            pvv prog (binOp .quo 3 i_229 (.int .i64 4)) w fun t_232 w =>
            pvv prog (Instr.indexAt 58 t_1 t_232) w fun t_233 w =>
            ldv prog (Instr.loadAt 50 t_233) w fun t_234 w =>
            pvv prog (binOp .rem 3 i_229 (.int .i64 4)) w fun t_235 w =>
            pvv prog (binOp .mul 3 (.int .i64 8) t_235) w fun t_236 w =>
            pvv prog (binOp .sub 3 (.int .i64 24) t_236) w fun t_237 w =>
            pvv prog (binOp .shr 50 t_234 t_237) w fun t_238 w =>
            pvv prog (convert 50 5 t_238) w fun t_239 w =>
            pvv prog (Instr.indexAt 23 out_228 i_229) w fun t_240 w =>
            efu prog (Instr.storeAt 5 t_240 t_239) w fun u_241 w =>
            pvv prog (binOp .add 3 i_229 (.int .i64 1)) w fun t_242 w =>
            again_230 [t_242] w) <|
          ldv prog (Instr.loadAt 23 out_228) w fun t_243 w =>
          efu prog (Instr.storeAt 23 t_0 t_243) w fun u_244 w =>
          ∃ r_245, (do loadVar 23 (← asAddr t_0)).run prog w = .ok r_245 w ∧ K r_245 w) [(.int .i64 0)] w) [(.int .i64 0)] w) [m_6, (.int .i64 0)] w) [t_5] w)
theorem B16_eq (b_p0 : Value) (w : World) (K : Value → World → Prop) : denFn prog Tryd.f16 T16 [b_p0] w K = B16 b_p0 w K := by kernel_rfl
theorem c16 {b_p0 : Value} {w : World} {K : Value → World → Prop} (h : B16 b_p0 w K) : Calls prog 16 #[b_p0] w (Ret K) :=
  denFn_calls Tryd.func16 T16_ok (Eq.mpr (B16_eq b_p0 w K) h)


end Go.Proofs.YtjmgkfpjaelilaaDoor
