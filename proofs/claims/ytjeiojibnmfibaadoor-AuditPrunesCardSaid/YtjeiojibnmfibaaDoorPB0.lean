import Derived.Test.YtjeiojibnmfibaaDoorPI
set_option linter.all false
set_option maxRecDepth 100000
namespace Go.Proofs.YtjeiojibnmfibaaDoor
open Go Hold
-- 55 holdfast/holdfastref07.Sum
def T55 : Ann := (.seq .none (.seq .none (.seq .none (.seq .none (.seq .none (.seq (.block (.loop 545460846624 [5] (.seq (.seq .none (.seq .none .none)) (.block .none)))) (.seq .none (.seq (.seq .none (.block (.loop 72048797944905888 [5, 7] (.seq (.seq .none (.seq .none .none)) (.seq (.block .none) .none))))) (.seq (.seq .none (.block (.loop 1897137590064188545819787018382342682267975428761855001222473056313591121991171840 [8] (.seq (.seq .none (.seq .none .none)) (.seq (.block (.seq .none (.seq (.seq .none (.block (.loop 1237940030062008238044351488 [10] (.seq (.seq .none (.seq .none .none)) (.seq (.block (.seq .none (.block (.loop 1237939891711427685222713344 [11] (.seq (.seq .none (.seq .none .none)) (.seq (.block (.draw [(0, .pure), (1, .pure), (2, .pure), (3, .pure), (4, .pure), (7, .pure), (8, .pure), (9, .pure), (10, .pure), (11, .pure), (12, .pure), (13, .pure), (14, .pure), (5, .load), (6, .pure), (15, .load), (16, .pure), (17, .pure), (18, .pure), (19, .eff)])) .none)))))) .none))))) (.seq (.seq .none (.block (.loop 87112285931759008706584614122257763037184 [12] (.seq (.seq .none (.seq .none .none)) (.seq (.block (.seq (.draw [(0, .pure), (1, .pure), (2, .pure), (3, .pure), (5, .pure), (6, .pure), (7, .pure), (8, .pure), (4, .load), (10, .pure), (9, .load), (11, .pure)]) (.draw [(0, .pure), (1, .pure), (2, .pure), (3, .pure), (4, .pure), (5, .pure), (7, .pure), (9, .pure), (12, .pure), (13, .pure), (16, .pure), (17, .pure), (18, .pure), (19, .pure), (22, .pure), (24, .pure), (27, .pure), (28, .pure), (6, .load), (20, .load), (8, .eff), (10, .eff), (11, .pure), (14, .pure), (15, .pure), (21, .pure), (23, .eff), (25, .eff), (26, .pure), (29, .pure), (30, .pure), (31, .pure), (32, .eff)]))) .none))))) (.seq .none (.seq .none (.seq (.seq .none (.block (.loop 115792089237316195423570985008687907156371697211558590866466387987651836739584 [15, 16] (.seq (.seq .none (.seq .none .none)) (.seq (.block (.seq (.draw [(0, .pure), (1, .pure), (4, .pure), (5, .pure), (9, .pure), (10, .pure), (2, .load), (6, .load), (11, .load), (3, .eff), (7, .eff), (8, .pure), (12, .eff), (13, .pure), (14, .pure)]) (.seq (.draw [(0, .pure), (1, .pure), (3, .pure), (4, .pure), (7, .pure), (8, .pure), (11, .pure), (12, .pure), (2, .load), (5, .load), (6, .pure), (9, .load), (10, .pure), (13, .load), (14, .pure), (15, .pure), (16, .pure)]) (.seq (.draw [(0, .pure), (1, .pure), (3, .pure), (5, .pure), (7, .pure), (8, .pure), (9, .pure), (12, .pure), (13, .pure), (14, .pure), (2, .load), (4, .pure), (6, .pure), (10, .load), (11, .pure), (15, .load), (16, .pure), (17, .pure)]) (.seq (.draw [(0, .pure), (1, .pure), (4, .pure), (5, .pure), (9, .pure), (10, .pure), (2, .load), (6, .load), (11, .load), (3, .eff), (7, .eff), (8, .pure), (12, .eff), (13, .pure), (14, .pure)]) (.seq (.draw [(0, .pure), (1, .pure), (3, .pure), (4, .pure), (7, .pure), (8, .pure), (10, .pure), (11, .pure), (15, .pure), (16, .pure), (18, .pure), (19, .pure), (2, .load), (5, .load), (6, .pure), (9, .load), (12, .load), (13, .pure), (14, .pure), (17, .load), (20, .load), (21, .pure), (22, .pure), (23, .pure)]) (.draw [(0, .pure), (1, .pure), (2, .pure), (3, .pure), (4, .pure), (5, .pure), (6, .pure), (8, .pure), (9, .pure), (11, .pure), (12, .pure), (14, .pure), (15, .pure), (17, .pure), (19, .pure), (20, .pure), (22, .pure), (23, .pure), (25, .pure), (26, .pure), (7, .load), (10, .load), (13, .load), (16, .load), (18, .pure), (21, .load), (24, .load), (27, .load), (28, .eff), (29, .pure)]))))))) .none))))) (.seq .none (.block (.loop 1897021797974951229624363447397333994360122158777189360658433598801640802895265792 [22] (.seq (.seq .none (.seq .none .none)) (.seq (.block (.draw [(0, .pure), (1, .pure), (2, .pure), (4, .pure), (5, .pure), (6, .pure), (3, .load), (7, .load), (8, .pure), (9, .pure), (10, .eff)])) .none)))))))))))) .none))))) (.seq .none (.seq (.seq .none (.block (.loop 248659721067303256889145304286392037707545807423245096865230765973523362857550683832320 [24] (.seq (.seq .none (.seq .none .none)) (.seq (.block .none) .none))))) (.seq .none .none))))))))))))
theorem T55_ok : chkFn prog Tryd.f55 T55 = true := by kernel_rfl
def B55 (b_p0 : Value) (w : World) (K : Value → World → Prop) : Prop :=
  efv prog (Instr.alloc 36 true (.tuple #[])) w fun t_0 w =>
  efv prog (Instr.buildSlice 102 8 #[(0, (.int .u32 1779033703)), (1, (.int .u32 3144134277)), (2, (.int .u32 1013904242)), (3, (.int .u32 2773480762)), (4, (.int .u32 1359893119)), (5, (.int .u32 2600822924)), (6, (.int .u32 528734635)), (7, (.int .u32 1541459225))]) w fun t_1 w =>
  Calls prog 65 #[] w (Ret fun t_2 w =>
  ef prog (oBi .append #[72, 72] 72 #[false, false] #[(.slice none 0 0), b_p0]) w fun t_3 w =>
  efv prog (Instr.buildSlice 72 1 #[(0, (.int .u8 128))]) w fun t_4 w =>
  ef prog (oBi .append #[72, 72] 72 #[false, false] #[t_3, t_4]) w fun t_5 w =>
  lp (fun σ w again_7 => pop σ fun m_6 σ => fin σ <|
    pv prog (oBi .len #[72] 3 #[false] #[m_6]) w fun t_8 w =>
    pvv prog (binOp .rem 3 t_8 (.int .i64 64)) w fun t_9 w =>
    pvv prog (oEq .neq 3 (.tmp 34) (.const (.int .i64 56)) t_9 (.int .i64 56)) w fun t_10 w =>
    cd t_10 (
      efv prog (Instr.buildSlice 72 1 #[(0, (.int .u8 0))]) w fun t_11 w =>
      ef prog (oBi .append #[72, 72] 72 #[false, false] #[m_6, t_11]) w fun t_12 w =>
      again_7 [t_12] w) <|
    pv prog (oBi .len #[72] 3 #[false] #[b_p0]) w fun t_13 w =>
    pvv prog (convert 3 96 t_13) w fun t_14 w =>
    pvv prog (binOp .mul 96 t_14 (.int .u64 8)) w fun t_15 w =>
    lp (fun σ w again_18 => pop σ fun m_16 σ => pop σ fun i_17 σ => fin σ <|
      pvv prog (binOp .lss 3 i_17 (.int .i64 8)) w fun t_19 w =>
      cd t_19 (
        pvv prog (binOp .mul 3 (.int .i64 8) i_17) w fun t_20 w =>
        pvv prog (binOp .sub 3 (.int .i64 56) t_20) w fun t_21 w =>
        pvv prog (binOp .shr 96 t_15 t_21) w fun t_22 w =>
        pvv prog (convert 96 5 t_22) w fun t_23 w =>
        efv prog (Instr.buildSlice 72 1 #[(0, t_23)]) w fun t_24 w =>
        ef prog (oBi .append #[72, 72] 72 #[false, false] #[m_16, t_24]) w fun t_25 w =>
        pvv prog (binOp .add 3 i_17 (.int .i64 1)) w fun t_26 w =>
        again_18 [t_25, t_26] w) <|
      lp (fun σ w again_28 => pop σ fun at_27 σ => fin σ <|
        pv prog (oBi .len #[72] 3 #[false] #[m_16]) w fun t_29 w =>
        pvv prog (binOp .lss 3 at_27 t_29) w fun t_30 w =>
        cd t_30 (
          efv prog (Instr.makeSlice 102 (.int .i64 64) (.int .i64 64)) w fun t_31 w =>
          lp (fun σ w again_33 => pop σ fun i_32 σ => fin σ <|
            pvv prog (binOp .lss 3 i_32 (.int .i64 16)) w fun t_34 w =>
            cd t_34 (
              lp (fun σ w again_36 => pop σ fun j_35 σ => fin σ <|
                pvv prog (binOp .lss 3 j_35 (.int .i64 4)) w fun t_37 w =>
                cd t_37 (
                  dr w fun w =>
                  pvv prog (Instr.indexAt 102 t_31 i_32) w fun t_38 w =>
                  pvv prog (binOp .mul 3 (.int .i64 4) i_32) w fun t_39 w =>
                  pvv prog (binOp .add 3 at_27 t_39) w fun t_40 w =>
                  pvv prog (binOp .add 3 t_40 j_35) w fun t_41 w =>
                  pvv prog (Instr.indexAt 72 m_16 t_41) w fun t_42 w =>
                  bindS (vN (Instr.loadAt 101 t_38)) fun m_44 => ldv prog (Instr.loadAt 101 t_38) w fun t_43 w =>
                  pvv prog (binOp .shl 101 t_43 (.int .u64 8)) w fun t_45 w =>
                  bindS (vN (Instr.loadAt 5 t_42)) fun m_47 => ldv prog (Instr.loadAt 5 t_42) w fun t_46 w =>
                  pvv prog (convert 5 101 t_46) w fun t_48 w =>
                  pvv prog (binOp .or 101 t_45 t_48) w fun t_49 w =>
                  pvv prog (Instr.indexAt 102 t_31 i_32) w fun t_50 w =>
                  efu prog (Instr.storeAt 101 t_50 t_49) w fun u_51 w =>
                  pvv prog (binOp .add 3 j_35 (.int .i64 1)) w fun t_52 w =>
                  again_36 [t_52] w) <|
                pvv prog (binOp .add 3 i_32 (.int .i64 1)) w fun t_54 w =>
                again_33 [t_54] w) [(.int .i64 0)] w) <|
            lp (fun σ w again_56 => pop σ fun i_55 σ => fin σ <|
              pvv prog (binOp .lss 3 i_55 (.int .i64 64)) w fun t_57 w =>
              cd t_57 (
                dr w fun w =>
                pvv prog (binOp .sub 3 i_55 (.int .i64 15)) w fun t_58 w =>
                pvv prog (Instr.indexAt 102 t_31 t_58) w fun t_59 w =>
                pvv prog (binOp .sub 3 i_55 (.int .i64 2)) w fun t_60 w =>
                pvv prog (Instr.indexAt 102 t_31 t_60) w fun t_61 w =>
                bindS (vN (Instr.loadAt 101 t_59)) fun m_63 => ldv prog (Instr.loadAt 101 t_59) w fun t_62 w =>
                bindS (vN (Instr.loadAt 101 t_61)) fun m_65 => ldv prog (Instr.loadAt 101 t_61) w fun t_64 w =>
                dr w fun w =>
                pvv prog (binOp .sub 3 i_55 (.int .i64 16)) w fun t_66 w =>
                pvv prog (Instr.indexAt 102 t_31 t_66) w fun t_67 w =>
                pvv prog (binOp .shr 101 t_62 (.int .u64 3)) w fun t_68 w =>
                pvv prog (binOp .sub 3 i_55 (.int .i64 7)) w fun t_69 w =>
                pvv prog (Instr.indexAt 102 t_31 t_69) w fun t_70 w =>
                pvv prog (binOp .shr 101 t_64 (.int .u64 10)) w fun t_71 w =>
                bindS (vN (Instr.loadAt 101 t_67)) fun m_73 => ldv prog (Instr.loadAt 101 t_67) w fun t_72 w =>
                bindS (vN (Instr.loadAt 101 t_70)) fun m_75 => ldv prog (Instr.loadAt 101 t_70) w fun t_74 w =>
                Calls prog 66 #[t_62, (.int .i64 7)] w (Ret fun t_76 w => stay prog none m_75 t_74 w <| stay prog none m_73 t_72 w <| 
                Calls prog 66 #[t_62, (.int .i64 18)] w (Ret fun t_77 w => stay prog none m_75 t_74 w <| stay prog none m_73 t_72 w <| 
                pvv prog (binOp .xor 101 t_76 t_77) w fun t_78 w =>
                pvv prog (binOp .xor 101 t_78 t_68) w fun t_79 w =>
                pvv prog (binOp .add 101 t_72 t_79) w fun t_80 w =>
                pvv prog (binOp .add 101 t_80 t_74) w fun t_81 w =>
                Calls prog 66 #[t_64, (.int .i64 17)] w (Ret fun t_82 w => stay prog none m_75 t_74 w <| stay prog none m_73 t_72 w <| 
                Calls prog 66 #[t_64, (.int .i64 19)] w (Ret fun t_83 w => stay prog none m_75 t_74 w <| stay prog none m_73 t_72 w <| 
                pvv prog (binOp .xor 101 t_82 t_83) w fun t_84 w =>
                pvv prog (binOp .xor 101 t_84 t_71) w fun t_85 w =>
                pvv prog (binOp .add 101 t_81 t_85) w fun t_86 w =>
                pvv prog (Instr.indexAt 102 t_31 i_55) w fun t_87 w =>
                efu prog (Instr.storeAt 101 t_87 t_86) w fun u_88 w =>
                pvv prog (binOp .add 3 i_55 (.int .i64 1)) w fun t_89 w =>
                again_56 [t_89] w))))) <|
              ef prog (oBi .append #[102, 102] 102 #[false, false] #[(.slice none 0 0), t_1]) w fun t_95 w =>
              lp (fun σ w again_98 => pop σ fun v_96 σ => pop σ fun i_97 σ => fin σ <|
                pvv prog (binOp .lss 3 i_97 (.int .i64 64)) w fun t_99 w =>
                cd t_99 (
                  dr w fun w =>
                  pvv prog (Instr.indexAt 102 v_96 (.int .i64 4)) w fun t_100 w =>
                  pvv prog (Instr.indexAt 102 v_96 (.int .i64 4)) w fun t_101 w =>
                  pvv prog (Instr.indexAt 102 v_96 (.int .i64 4)) w fun t_102 w =>
                  bindS (vN (Instr.loadAt 101 t_100)) fun m_104 => ldv prog (Instr.loadAt 101 t_100) w fun t_103 w =>
                  bindS (vN (Instr.loadAt 101 t_101)) fun m_106 => ldv prog (Instr.loadAt 101 t_101) w fun t_105 w =>
                  bindS (vN (Instr.loadAt 101 t_102)) fun m_108 => ldv prog (Instr.loadAt 101 t_102) w fun t_107 w =>
                  Calls prog 66 #[t_103, (.int .i64 6)] w (Ret fun t_109 w => stay prog none m_108 t_107 w <| stay prog none m_106 t_105 w <| 
                  Calls prog 66 #[t_105, (.int .i64 11)] w (Ret fun t_110 w => stay prog none m_108 t_107 w <| stay prog none m_104 t_103 w <| 
                  pvv prog (binOp .xor 101 t_109 t_110) w fun t_111 w =>
                  Calls prog 66 #[t_107, (.int .i64 25)] w (Ret fun t_112 w => stay prog none m_106 t_105 w <| stay prog none m_104 t_103 w <| 
                  pvv prog (binOp .xor 101 t_111 t_112) w fun t_113 w =>
                  dr w fun w =>
                  pvv prog (Instr.indexAt 102 v_96 (.int .i64 4)) w fun t_114 w =>
                  pvv prog (Instr.indexAt 102 v_96 (.int .i64 5)) w fun t_115 w =>
                  pvv prog (Instr.indexAt 102 v_96 (.int .i64 4)) w fun t_116 w =>
                  pvv prog (Instr.indexAt 102 v_96 (.int .i64 6)) w fun t_117 w =>
                  bindS (vN (Instr.loadAt 101 t_114)) fun m_119 => ldv prog (Instr.loadAt 101 t_114) w fun t_118 w =>
                  bindS (vN (Instr.loadAt 101 t_115)) fun m_121 => ldv prog (Instr.loadAt 101 t_115) w fun t_120 w =>
                  pvv prog (binOp .and 101 t_118 t_120) w fun t_122 w =>
                  bindS (vN (Instr.loadAt 101 t_116)) fun m_124 => ldv prog (Instr.loadAt 101 t_116) w fun t_123 w =>
                  pvv prog (Op.unary .xor t_123) w fun t_125 w =>
                  bindS (vN (Instr.loadAt 101 t_117)) fun m_127 => ldv prog (Instr.loadAt 101 t_117) w fun t_126 w =>
                  pvv prog (binOp .and 101 t_125 t_126) w fun t_128 w =>
                  pvv prog (binOp .xor 101 t_122 t_128) w fun t_129 w =>
                  dr w fun w =>
                  pvv prog (Instr.indexAt 102 v_96 (.int .i64 7)) w fun t_130 w =>
                  pvv prog (Instr.indexAt 102 t_2 i_97) w fun t_131 w =>
                  pvv prog (Instr.indexAt 102 t_31 i_97) w fun t_132 w =>
                  bindS (vN (Instr.loadAt 101 t_130)) fun m_134 => ldv prog (Instr.loadAt 101 t_130) w fun t_133 w =>
                  pvv prog (binOp .add 101 t_133 t_113) w fun t_135 w =>
                  pvv prog (binOp .add 101 t_135 t_129) w fun t_136 w =>
                  bindS (vN (Instr.loadAt 101 t_131)) fun m_138 => ldv prog (Instr.loadAt 101 t_131) w fun t_137 w =>
                  pvv prog (binOp .add 101 t_136 t_137) w fun t_139 w =>
                  bindS (vN (Instr.loadAt 101 t_132)) fun m_141 => ldv prog (Instr.loadAt 101 t_132) w fun t_140 w =>
                  pvv prog (binOp .add 101 t_139 t_140) w fun t_142 w =>
                  dr w fun w =>
                  pvv prog (Instr.indexAt 102 v_96 (.int .i64 0)) w fun t_143 w =>
                  pvv prog (Instr.indexAt 102 v_96 (.int .i64 0)) w fun t_144 w =>
                  pvv prog (Instr.indexAt 102 v_96 (.int .i64 0)) w fun t_145 w =>
                  bindS (vN (Instr.loadAt 101 t_143)) fun m_147 => ldv prog (Instr.loadAt 101 t_143) w fun t_146 w =>
                  bindS (vN (Instr.loadAt 101 t_144)) fun m_149 => ldv prog (Instr.loadAt 101 t_144) w fun t_148 w =>
                  bindS (vN (Instr.loadAt 101 t_145)) fun m_151 => ldv prog (Instr.loadAt 101 t_145) w fun t_150 w =>
                  Calls prog 66 #[t_146, (.int .i64 2)] w (Ret fun t_152 w => stay prog none m_151 t_150 w <| stay prog none m_149 t_148 w <| 
                  Calls prog 66 #[t_148, (.int .i64 13)] w (Ret fun t_153 w => stay prog none m_151 t_150 w <| stay prog none m_147 t_146 w <| 
                  pvv prog (binOp .xor 101 t_152 t_153) w fun t_154 w =>
                  Calls prog 66 #[t_150, (.int .i64 22)] w (Ret fun t_155 w => stay prog none m_149 t_148 w <| stay prog none m_147 t_146 w <| 
                  pvv prog (binOp .xor 101 t_154 t_155) w fun t_156 w =>
                  dr w fun w =>
                  pvv prog (Instr.indexAt 102 v_96 (.int .i64 0)) w fun t_157 w =>
                  pvv prog (Instr.indexAt 102 v_96 (.int .i64 1)) w fun t_158 w =>
                  pvv prog (Instr.indexAt 102 v_96 (.int .i64 0)) w fun t_159 w =>
                  pvv prog (Instr.indexAt 102 v_96 (.int .i64 2)) w fun t_160 w =>
                  pvv prog (Instr.indexAt 102 v_96 (.int .i64 1)) w fun t_161 w =>
                  pvv prog (Instr.indexAt 102 v_96 (.int .i64 2)) w fun t_162 w =>
                  bindS (vN (Instr.loadAt 101 t_157)) fun m_164 => ldv prog (Instr.loadAt 101 t_157) w fun t_163 w =>
                  bindS (vN (Instr.loadAt 101 t_158)) fun m_166 => ldv prog (Instr.loadAt 101 t_158) w fun t_165 w =>
                  pvv prog (binOp .and 101 t_163 t_165) w fun t_167 w =>
                  bindS (vN (Instr.loadAt 101 t_159)) fun m_169 => ldv prog (Instr.loadAt 101 t_159) w fun t_168 w =>
                  bindS (vN (Instr.loadAt 101 t_160)) fun m_171 => ldv prog (Instr.loadAt 101 t_160) w fun t_170 w =>
                  pvv prog (binOp .and 101 t_168 t_170) w fun t_172 w =>
                  pvv prog (binOp .xor 101 t_167 t_172) w fun t_173 w =>
                  bindS (vN (Instr.loadAt 101 t_161)) fun m_175 => ldv prog (Instr.loadAt 101 t_161) w fun t_174 w =>
                  bindS (vN (Instr.loadAt 101 t_162)) fun m_177 => ldv prog (Instr.loadAt 101 t_162) w fun t_176 w =>
                  pvv prog (binOp .and 101 t_174 t_176) w fun t_178 w =>
                  pvv prog (binOp .xor 101 t_173 t_178) w fun t_179 w =>
                  dr w fun w =>
                  pvv prog (binOp .add 101 t_142 t_156) w fun t_180 w =>
                  pvv prog (binOp .add 101 t_180 t_179) w fun t_181 w =>
                  pvv prog (Instr.indexAt 102 v_96 (.int .i64 0)) w fun t_182 w =>
                  pvv prog (Instr.indexAt 102 v_96 (.int .i64 1)) w fun t_183 w =>
                  pvv prog (Instr.indexAt 102 v_96 (.int .i64 2)) w fun t_184 w =>
                  pvv prog (Instr.indexAt 102 v_96 (.int .i64 3)) w fun t_185 w =>
                  pvv prog (Instr.indexAt 102 v_96 (.int .i64 4)) w fun t_186 w =>
                  pvv prog (Instr.indexAt 102 v_96 (.int .i64 5)) w fun t_187 w =>
                  pvv prog (Instr.indexAt 102 v_96 (.int .i64 6)) w fun t_188 w =>
                  bindS (vN (Instr.loadAt 101 t_182)) fun m_190 => ldv prog (Instr.loadAt 101 t_182) w fun t_189 w =>
                  bindS (vN (Instr.loadAt 101 t_183)) fun m_192 => ldv prog (Instr.loadAt 101 t_183) w fun t_191 w =>
                  bindS (vN (Instr.loadAt 101 t_184)) fun m_194 => ldv prog (Instr.loadAt 101 t_184) w fun t_193 w =>
                  bindS (vN (Instr.loadAt 101 t_185)) fun m_196 => ldv prog (Instr.loadAt 101 t_185) w fun t_195 w =>
                  pvv prog (binOp .add 101 t_195 t_142) w fun t_197 w =>
                  bindS (vN (Instr.loadAt 101 t_186)) fun m_199 => ldv prog (Instr.loadAt 101 t_186) w fun t_198 w =>
                  bindS (vN (Instr.loadAt 101 t_187)) fun m_201 => ldv prog (Instr.loadAt 101 t_187) w fun t_200 w =>
                  bindS (vN (Instr.loadAt 101 t_188)) fun m_203 => ldv prog (Instr.loadAt 101 t_188) w fun t_202 w =>
                  efv prog (Instr.buildSlice 102 8 #[(0, t_181), (1, t_189), (2, t_191), (3, t_193), (4, t_197), (5, t_198), (6, t_200), (7, t_202)]) w fun t_204 w => stay prog none m_196 t_195 w <| 
                  pvv prog (binOp .add 3 i_97 (.int .i64 1)) w fun t_205 w =>
                  again_98 [t_204, t_205] w))))))) <|
                lp (fun σ w again_214 => pop σ fun i_213 σ => fin σ <|
                  pvv prog (binOp .lss 3 i_213 (.int .i64 8)) w fun t_215 w =>
                  cd t_215 (
                    dr w fun w =>
                    pvv prog (Instr.indexAt 102 t_1 i_213) w fun t_216 w =>
                    pvv prog (Instr.indexAt 102 v_96 i_213) w fun t_217 w =>
                    bindS (vN (Instr.loadAt 101 t_216)) fun m_219 => ldv prog (Instr.loadAt 101 t_216) w fun t_218 w =>
                    bindS (vN (Instr.loadAt 101 t_217)) fun m_221 => ldv prog (Instr.loadAt 101 t_217) w fun t_220 w =>
                    pvv prog (binOp .add 101 t_218 t_220) w fun t_222 w =>
                    pvv prog (Instr.indexAt 102 t_1 i_213) w fun t_223 w =>
                    efu prog (Instr.storeAt 101 t_223 t_222) w fun u_224 w =>
                    pvv prog (binOp .add 3 i_213 (.int .i64 1)) w fun t_225 w =>
                    again_214 [t_225] w) <|
                  pvv prog (binOp .add 3 at_27 (.int .i64 64)) w fun t_227 w =>
                  again_28 [t_227] w) [(.int .i64 0)] w) [t_95, (.int .i64 0)] w) [(.int .i64 16)] w) [(.int .i64 0)] w) <|
        efv prog (Instr.alloc 36 true (.tuple #[])) w fun out_228 w =>
        lp (fun σ w again_230 => pop σ fun i_229 σ => fin σ <|
          pvv prog (binOp .lss 3 i_229 (.int .i64 32)) w fun t_231 w =>
          cd t_231 (
            pvv prog (binOp .quo 3 i_229 (.int .i64 4)) w fun t_232 w =>
            pvv prog (Instr.indexAt 102 t_1 t_232) w fun t_233 w =>
            ldv prog (Instr.loadAt 101 t_233) w fun t_234 w =>
            pvv prog (binOp .rem 3 i_229 (.int .i64 4)) w fun t_235 w =>
            pvv prog (binOp .mul 3 (.int .i64 8) t_235) w fun t_236 w =>
            pvv prog (binOp .sub 3 (.int .i64 24) t_236) w fun t_237 w =>
            pvv prog (binOp .shr 101 t_234 t_237) w fun t_238 w =>
            pvv prog (convert 101 5 t_238) w fun t_239 w =>
            pvv prog (Instr.indexAt 36 out_228 i_229) w fun t_240 w =>
            efu prog (Instr.storeAt 5 t_240 t_239) w fun u_241 w =>
            pvv prog (binOp .add 3 i_229 (.int .i64 1)) w fun t_242 w =>
            again_230 [t_242] w) <|
          ldv prog (Instr.loadAt 36 out_228) w fun t_243 w =>
          efu prog (Instr.storeAt 36 t_0 t_243) w fun u_244 w =>
          ∃ r_245, (do loadVar 36 (← asAddr t_0)).run prog w = .ok r_245 w ∧ K r_245 w) [(.int .i64 0)] w) [(.int .i64 0)] w) [m_6, (.int .i64 0)] w) [t_5] w)
theorem B55_eq (b_p0 : Value) (w : World) (K : Value → World → Prop) : denFn prog Tryd.f55 T55 [b_p0] w K = B55 b_p0 w K := by kernel_rfl
theorem c55 {b_p0 : Value} {w : World} {K : Value → World → Prop} (h : B55 b_p0 w K) : Calls prog 55 #[b_p0] w (Ret K) :=
  denFn_calls Tryd.func55 T55_ok (Eq.mpr (B55_eq b_p0 w K) h)

-- 87 internal/strconv.formatBits
def T87 : Ann := (.seq .none (.meet 1073217536 [] (.seq .none (.seq .none .none)) (.seq .none (.seq .none (.meet 7516192770 [1] (.seq .none (.seq .none .none)) (.meet 618970019642690128860143618 [13] (.seq .none (.seq (.seq .none (.seq .none (.seq .none (.seq (.block (.loop 288212783965675522 [1, 13] (.seq (.seq .none (.seq .none .none)) (.block (.seq .none (.seq .none .none)))))) (.seq .none .none))))) (.seq .none (.seq (.block (.loop 9671332769940738559713282 [1, 13] (.seq (.seq .none (.seq .none .none)) (.block (.seq .none (.seq .none (.seq .none .none))))))) (.seq .none .none))))) (.meet 19188070608923394260936433664 [13] (.seq .none (.seq (.seq .none .none) .none)) (.seq (.seq .none (.seq (.seq .none .none) .none)) (.seq .none .none)))))))))
theorem T87_ok : chkFn prog Tryd.f87 T87 = true := by kernel_rfl
def B87 (dst_p0 u_p1 base_p2 neg_p3 append__p4 : Value) (w : World) (K : Value → World → Prop) : Prop :=
  jn (fun σ w => fin σ <|
    efv prog (Instr.alloc 140 true (.tuple #[])) w fun a_0 w =>
    jn (fun σ w => pop σ fun u_1 σ => fin σ <|
      jn (fun σ w => pop σ fun i_2 σ => fin σ <|
        jn (fun σ w => pop σ fun i_3 σ => fin σ <|
          cd append__p4 (
            pvv prog (Instr.sliceAt 140 a_0 (some i_3) none none) w fun t_4 w =>
            ef prog (oBi .append #[72, 72] 72 #[false, false] #[dst_p0, t_4]) w fun t_5 w =>
            K (.tuple #[t_5, (.string ⟨#[]⟩)]) w) <|
          pvv prog (Instr.sliceAt 140 a_0 (some i_3) none none) w fun t_6 w =>
          efv prog (convert 72 9 t_6) w fun t_7 w =>
          K (.tuple #[(.slice none 0 0), t_7]) w) fun k_8 =>
        cd neg_p3 (
          pvv prog (binOp .sub 3 i_2 (.int .i64 1)) w fun t_9 w =>
          pvv prog (Instr.indexAt 140 a_0 t_9) w fun t_10 w =>
          efu prog (Instr.storeAt 5 t_10 (.int .u8 45)) w fun u_11 w =>
          k_8 [t_9] w) <|
        k_8 [i_2] w) fun k_12 =>
      Calls prog 101 #[base_p2] w (Ret fun t_13 w =>
      cd t_13 (
        pvv prog (convert 3 104 base_p2) w fun t_14 w =>
        Calls prog 102 #[t_14] w (Ret fun t_15 w =>
        pvv prog (convert 3 104 t_15) w fun t_16 w =>
        pvv prog (convert 3 96 base_p2) w fun t_17 w =>
        pvv prog (convert 3 104 base_p2) w fun t_18 w =>
        pvv prog (binOp .sub 104 t_18 (.int .u64 1)) w fun t_19 w =>
        lp (fun σ w again_22 => pop σ fun u_20 σ => pop σ fun i_21 σ => fin σ <|
          pvv prog (binOp .geq 96 u_20 t_17) w fun t_23 w =>
          cd t_23 (
            pvv prog (binOp .sub 3 i_21 (.int .i64 1)) w fun t_24 w =>
            pvv prog (binOp .and 104 u_20 t_19) w fun t_25 w =>
            pvv prog (Instr.index 9 (.string ⟨#[48, 49, 50, 51, 52, 53, 54, 55, 56, 57, 97, 98, 99, 100, 101, 102, 103, 104, 105, 106, 107, 108, 109, 110, 111, 112, 113, 114, 115, 116, 117, 118, 119, 120, 121, 122]⟩) t_25) w fun t_26 w =>
            pvv prog (Instr.indexAt 140 a_0 t_24) w fun t_27 w =>
            efu prog (Instr.storeAt 5 t_27 t_26) w fun u_28 w =>
            pvv prog (binOp .shr 96 u_20 t_16) w fun t_29 w =>
            again_22 [t_29, t_24] w) <|
          pvv prog (binOp .sub 3 i_21 (.int .i64 1)) w fun t_30 w =>
          pvv prog (Instr.index 9 (.string ⟨#[48, 49, 50, 51, 52, 53, 54, 55, 56, 57, 97, 98, 99, 100, 101, 102, 103, 104, 105, 106, 107, 108, 109, 110, 111, 112, 113, 114, 115, 116, 117, 118, 119, 120, 121, 122]⟩) u_20) w fun t_31 w =>
          pvv prog (Instr.indexAt 140 a_0 t_30) w fun t_32 w =>
          efu prog (Instr.storeAt 5 t_32 t_31) w fun u_33 w =>
          k_12 [t_30] w) [u_1, (.int .i64 65)] w)) <|
      pvv prog (convert 3 96 base_p2) w fun t_34 w =>
      lp (fun σ w again_37 => pop σ fun u_35 σ => pop σ fun i_36 σ => fin σ <|
        pvv prog (binOp .geq 96 u_35 t_34) w fun t_38 w =>
        cd t_38 (
          pvv prog (binOp .sub 3 i_36 (.int .i64 1)) w fun t_39 w =>
          pvv prog (binOp .quo 96 u_35 t_34) w fun t_40 w =>
          pvv prog (binOp .mul 96 t_40 t_34) w fun t_41 w =>
          pvv prog (binOp .sub 96 u_35 t_41) w fun t_42 w =>
          pvv prog (Instr.index 9 (.string ⟨#[48, 49, 50, 51, 52, 53, 54, 55, 56, 57, 97, 98, 99, 100, 101, 102, 103, 104, 105, 106, 107, 108, 109, 110, 111, 112, 113, 114, 115, 116, 117, 118, 119, 120, 121, 122]⟩) t_42) w fun t_43 w =>
          pvv prog (Instr.indexAt 140 a_0 t_39) w fun t_44 w =>
          efu prog (Instr.storeAt 5 t_44 t_43) w fun u_45 w =>
          again_37 [t_40, t_39] w) <|
        pvv prog (binOp .sub 3 i_36 (.int .i64 1)) w fun t_46 w =>
        pvv prog (Instr.index 9 (.string ⟨#[48, 49, 50, 51, 52, 53, 54, 55, 56, 57, 97, 98, 99, 100, 101, 102, 103, 104, 105, 106, 107, 108, 109, 110, 111, 112, 113, 114, 115, 116, 117, 118, 119, 120, 121, 122]⟩) u_35) w fun t_47 w =>
        pvv prog (Instr.indexAt 140 a_0 t_46) w fun t_48 w =>
        efu prog (Instr.storeAt 5 t_48 t_47) w fun u_49 w =>
        k_12 [t_46] w) [u_1, (.int .i64 65)] w)) fun k_50 =>
    cd neg_p3 (
      pvv prog (Op.unary .neg u_p1) w fun t_51 w =>
      k_50 [t_51] w) <|
    k_50 [u_p1] w) fun k_52 =>
  pvv prog (binOp .lss 3 base_p2 (.int .i64 2)) w fun t_53 w =>
  gate (some (t_53, false)) (fun K => K base_p2 w) w fun t_54 w =>
  gate (some (t_53, false)) (fun K => pvv prog (oEq .eql 3 (.tmp 22) (.const (.int .i64 10)) t_54 (.int .i64 10)) w K) w fun t_55 w =>
  pv prog (oPick t_53 (.bool true) t_55) w fun t_56 w =>
  gate (some (t_56, false)) (fun K => K base_p2 w) w fun t_57 w =>
  gate (some (t_56, false)) (fun K => pvv prog (binOp .gtr 3 t_57 (.int .i64 36)) w K) w fun t_58 w =>
  pv prog (oPick t_56 (.bool true) t_58) w fun t_59 w =>
  cd t_59 (
    pvv prog (Instr.makeInterface 9 (.string ⟨#[115, 116, 114, 99, 111, 110, 118, 58, 32, 105, 108, 108, 101, 103, 97, 108, 32, 65, 112, 112, 101, 110, 100, 73, 110, 116, 47, 70, 111, 114, 109, 97, 116, 73, 110, 116, 32, 98, 97, 115, 101]⟩)) w fun t_60 w =>
    efv prog (Instr.panic t_60) w fun u_61 w =>
    k_52 [] w) <|
  k_52 [] w
theorem B87_eq (dst_p0 u_p1 base_p2 neg_p3 append__p4 : Value) (w : World) (K : Value → World → Prop) : denFn prog Tryd.f87 T87 [dst_p0, u_p1, base_p2, neg_p3, append__p4] w K = B87 dst_p0 u_p1 base_p2 neg_p3 append__p4 w K := by kernel_rfl
theorem c87 {dst_p0 u_p1 base_p2 neg_p3 append__p4 : Value} {w : World} {K : Value → World → Prop} (h : B87 dst_p0 u_p1 base_p2 neg_p3 append__p4 w K) : Calls prog 87 #[dst_p0, u_p1, base_p2, neg_p3, append__p4] w (Ret K) :=
  denFn_calls Tryd.func87 T87_ok (Eq.mpr (B87_eq dst_p0 u_p1 base_p2 neg_p3 append__p4 w K) h)

-- 57 holdfast/hash.Sum
def T57 : Ann := (.seq .none (.seq .none (.seq .none (.seq .none (.seq (.block (.loop 33488897 [0] (.seq (.seq .none (.seq .none .none)) (.seq (.block .none) .none)))) (.seq .none (.seq .none (.seq (.seq .none (.block (.loop 281440616972480 [6, 35] (.seq .none (.seq (.seq .none .none) (.seq (.block (.seq .none .none)) .none)))))) (.seq (.block (.loop 143833713099145280 [6] (.seq (.seq .none (.seq .none .none)) (.seq (.block .none) .none)))) (.seq (.seq .none (.block (.loop 618970019354459761297851136 [58] (.seq .none (.seq (.seq .none .none) (.seq (.block (.seq .none .none)) .none)))))) (.seq .none .none)))))))))))
theorem T57_ok : chkFn prog Tryd.f57 T57 = true := by kernel_rfl
def B57 (b_p0 : Value) (w : World) (K : Value → World → Prop) : Prop :=
  efv prog (Instr.alloc 36 true (.tuple #[])) w fun out_0 w =>
  pvv prog (Instr.build 107 #[(0, (.int .u32 1779033703)), (1, (.int .u32 3144134277)), (2, (.int .u32 1013904242)), (3, (.int .u32 2773480762)), (4, (.int .u32 1359893119)), (5, (.int .u32 2600822924)), (6, (.int .u32 528734635)), (7, (.int .u32 1541459225))]) w fun t_1 w =>
  efv prog (Instr.alloc 107 true (.tuple #[])) w fun h_2 w =>
  efu prog (Instr.storeAt 107 h_2 t_1) w fun u_3 w =>
  Calls prog 67 #[] w (Ret fun t_4 w =>
  pv prog (oBi .len #[72] 3 #[false] #[b_p0]) w fun t_5 w =>
  pvv prog (convert 3 96 t_5) w fun t_6 w =>
  pvv prog (binOp .shl 96 t_6 (.int .u64 3)) w fun t_7 w =>
  lp (fun σ w again_9 => pop σ fun b_8 σ => fin σ <|
    pv prog (oBi .len #[72] 3 #[false] #[b_8]) w fun t_10 w =>
    pvv prog (binOp .geq 3 t_10 (.int .i64 64)) w fun t_11 w =>
    cd t_11 (
      ldv prog (Instr.loadAt 107 h_2) w fun t_12 w =>
      Calls prog 68 #[t_12, t_4, b_8] w (Ret fun t_13 w =>
      efu prog (Instr.storeAt 107 h_2 t_13) w fun u_14 w =>
      pvv prog (Instr.sliceAt 72 b_8 (some (.int .i64 64)) none none) w fun t_15 w =>
      again_9 [t_15] w)) <|
    Calls prog 69 #[b_8] w (Ret fun t_16 w =>
    efv prog (Instr.buildSlice 72 1 #[(0, (.int .u8 128))]) w fun t_17 w =>
    ef prog (oBi .append #[72, 72] 72 #[false, false] #[t_16, t_17]) w fun t_18 w =>
    pv prog (oBi .len #[72] 3 #[false] #[b_8]) w fun t_19 w =>
    pvv prog (binOp .sub 3 (.int .i64 119) t_19) w fun t_20 w =>
    pvv prog (binOp .rem 3 t_20 (.int .i64 64)) w fun t_21 w =>
    ef prog (oBi .append #[72, 3] 72 #[false, false] #[t_18, t_21]) w fun t_22 w =>
    lp (fun σ w again_25 => pop σ fun end_23 σ => pop σ fun t_24 σ => fin σ <|
      pvv prog (binOp .lss 3 t_24 (.int .i64 8)) w fun t_26 w =>
      cd t_26 (
        pvv prog (binOp .mul 3 (.int .i64 8) t_24) w fun t_27 w =>
        pvv prog (binOp .sub 3 (.int .i64 56) t_27) w fun t_28 w =>
        pvv prog (binOp .shr 96 t_7 t_28) w fun t_29 w =>
        pvv prog (convert 96 5 t_29) w fun t_30 w =>
        efv prog (Instr.buildSlice 72 1 #[(0, t_30)]) w fun t_31 w =>
        ef prog (oBi .append #[72, 72] 72 #[false, false] #[end_23, t_31]) w fun t_32 w =>
        pvv prog (binOp .add 3 t_24 (.int .i64 1)) w fun t_33 w =>
        again_25 [t_32, t_33] w) <|
      lp (fun σ w again_35 => pop σ fun end_34 σ => fin σ <|
        pv prog (oBi .len #[72] 3 #[false] #[end_34]) w fun t_36 w =>
        pvv prog (binOp .gtr 3 t_36 (.int .i64 0)) w fun t_37 w =>
        cd t_37 (
          ldv prog (Instr.loadAt 107 h_2) w fun t_38 w =>
          Calls prog 68 #[t_38, t_4, end_34] w (Ret fun t_39 w =>
          efu prog (Instr.storeAt 107 h_2 t_39) w fun u_40 w =>
          pvv prog (Instr.sliceAt 72 end_34 (some (.int .i64 64)) none none) w fun t_41 w =>
          again_35 [t_41] w)) <|
        ldv prog (Instr.loadAt 107 h_2) w fun t_42 w =>
        lp (fun σ w again_44 => pop σ fun t_43 σ => fin σ <|
          pvv prog (binOp .lss 3 t_43 (.int .i64 8)) w fun t_45 w =>
          cd t_45 (
            pvv prog (Instr.index 107 t_42 t_43) w fun t_46 w =>
            pvv prog (binOp .mul 3 (.int .i64 4) t_43) w fun t_47 w =>
            pvv prog (binOp .mul 3 (.int .i64 4) t_43) w fun t_48 w =>
            pvv prog (binOp .add 3 t_48 (.int .i64 1)) w fun t_49 w =>
            pvv prog (binOp .mul 3 (.int .i64 4) t_43) w fun t_50 w =>
            pvv prog (binOp .add 3 t_50 (.int .i64 2)) w fun t_51 w =>
            pvv prog (binOp .mul 3 (.int .i64 4) t_43) w fun t_52 w =>
            pvv prog (binOp .add 3 t_52 (.int .i64 3)) w fun t_53 w =>
            pvv prog (binOp .shr 101 t_46 (.int .u64 24)) w fun t_54 w =>
            pvv prog (convert 101 5 t_54) w fun t_55 w =>
            pvv prog (binOp .shr 101 t_46 (.int .u64 16)) w fun t_56 w =>
            pvv prog (convert 101 5 t_56) w fun t_57 w =>
            pvv prog (binOp .shr 101 t_46 (.int .u64 8)) w fun t_58 w =>
            pvv prog (convert 101 5 t_58) w fun t_59 w =>
            pvv prog (convert 101 5 t_46) w fun t_60 w =>
            pvv prog (Instr.indexAt 36 out_0 t_47) w fun t_61 w =>
            efu prog (Instr.storeAt 5 t_61 t_55) w fun u_62 w =>
            pvv prog (Instr.indexAt 36 out_0 t_49) w fun t_63 w =>
            efu prog (Instr.storeAt 5 t_63 t_57) w fun u_64 w =>
            pvv prog (Instr.indexAt 36 out_0 t_51) w fun t_65 w =>
            efu prog (Instr.storeAt 5 t_65 t_59) w fun u_66 w =>
            pvv prog (Instr.indexAt 36 out_0 t_53) w fun t_67 w =>
            efu prog (Instr.storeAt 5 t_67 t_60) w fun u_68 w =>
            pvv prog (binOp .add 3 t_43 (.int .i64 1)) w fun t_69 w =>
            again_44 [t_69] w) <|
          ldv prog (Instr.loadAt 36 out_0) w fun t_70 w =>
          efu prog (Instr.storeAt 36 out_0 t_70) w fun u_71 w =>
          ∃ r_72, (do loadVar 36 (← asAddr out_0)).run prog w = .ok r_72 w ∧ K r_72 w) [(.int .i64 0)] w) [end_23] w) [t_22, (.int .i64 0)] w)) [b_p0] w)
theorem B57_eq (b_p0 : Value) (w : World) (K : Value → World → Prop) : denFn prog Tryd.f57 T57 [b_p0] w K = B57 b_p0 w K := by kernel_rfl
theorem c57 {b_p0 : Value} {w : World} {K : Value → World → Prop} (h : B57 b_p0 w K) : Calls prog 57 #[b_p0] w (Ret K) :=
  denFn_calls Tryd.func57 T57_ok (Eq.mpr (B57_eq b_p0 w K) h)

-- 7 holdfast/holdfastlaw14.AuditNone
def T7 : Ann := (.seq .none (.seq .none (.seq .none (.seq .none (.seq .none (.seq .none (.seq .none .none)))))))
theorem T7_ok : chkFn prog Tryd.f7 T7 = true := by kernel_rfl
def B7 (n_p0 s_p1 : Value) (w : World) (K : Value → World → Prop) : Prop :=
  Calls prog 16 #[(.pointer none), n_p0, s_p1, s_p1] w (Ret fun t_0 w =>
  pvv prog (Instr.extract t_0 0) w fun t_1 w =>
  pvv prog (Instr.extract t_0 1) w fun t_2 w =>
  efv prog (Instr.alloc 34 true (.tuple #[])) w fun t_3 w =>
  efu prog (Instr.storeAt 34 t_3 t_1) w fun u_4 w =>
  Calls prog 18 #[(.pointer none), n_p0] w (Ret fun t_5 w =>
  pvv prog (Instr.extract t_5 0) w fun t_6 w =>
  pvv prog (Instr.extract t_5 1) w fun t_7 w =>
  Calls prog 17 #[(.pointer none)] w (Ret fun t_8 w =>
  pvv prog (Instr.extract t_8 0) w fun t_9 w =>
  pvv prog (Instr.extract t_8 1) w fun t_10 w =>
  efv prog (Instr.alloc 36 true (.tuple #[])) w fun t_11 w =>
  efu prog (Instr.storeAt 36 t_11 t_10) w fun u_12 w =>
  Calls prog 14 #[(.pointer none)] w (Ret fun t_13 w =>
  pvv prog (Instr.extract t_13 0) w fun t_14 w =>
  pvv prog (Instr.extract t_13 1) w fun t_15 w =>
  efv prog (Instr.alloc 36 true (.tuple #[])) w fun t_16 w =>
  efu prog (Instr.storeAt 36 t_16 t_15) w fun u_17 w =>
  Calls prog 11 #[] w (Ret fun t_18 w =>
  gate (some (t_18, true)) (fun K => K t_2 w) w fun t_19 w =>
  gate (some (t_18, true)) (fun K => pvv prog (oEq .eql 41 (.tmp 40) (.const (.int .i64 1)) t_19 (.int .i64 1)) w K) w fun t_20 w =>
  pv prog (oPick t_18 t_20 (.bool false)) w fun t_21 w =>
  gate (some (t_21, true)) (fun K => K t_7 w) w fun t_22 w =>
  gate (some (t_21, true)) (fun K => pvv prog (oEq .eql 41 (.tmp 44) (.const (.int .i64 1)) t_22 (.int .i64 1)) w K) w fun t_23 w =>
  pv prog (oPick t_21 t_23 (.bool false)) w fun t_24 w =>
  gate (some (t_24, true)) (fun K => K t_9 w) w fun t_25 w =>
  gate (some (t_24, true)) (fun K => pvv prog (oEq .eql 3 (.tmp 48) (.const (.int .i64 0)) t_25 (.int .i64 0)) w K) w fun t_26 w =>
  pv prog (oPick t_24 t_26 (.bool false)) w fun t_27 w =>
  gate (some (t_27, true)) (fun K => K t_14 w) w fun t_28 w =>
  gate (some (t_27, true)) (fun K => pvv prog (oEq .eql 3 (.tmp 52) (.const (.int .i64 0)) t_28 (.int .i64 0)) w K) w fun t_29 w =>
  pv prog (oPick t_27 t_29 (.bool false)) w fun t_30 w =>
  gate (some (t_30, true)) (fun K => K (.pointer none) w) w fun t_31 w =>
  gate (some (t_30, true)) (fun K => Calls prog 20 #[t_31] w (Ret K)) w fun t_32 w =>
  gate (some (t_30, true)) (fun K => pvv prog (oEq .eql 41 (.tmp 57) (.const (.int .i64 1)) t_32 (.int .i64 1)) w K) w fun t_33 w =>
  pv prog (oPick t_30 t_33 (.bool false)) w fun t_34 w =>
  gate (some (t_34, true)) (fun K => K (.pointer none) w) w fun t_35 w =>
  gate (some (t_34, true)) (fun K => Calls prog 13 #[t_35] w (Ret K)) w fun t_36 w =>
  gate (some (t_34, true)) (fun K => pv prog (oBi .len #[31] 3 #[false] #[t_36]) w K) w fun t_37 w =>
  gate (some (t_34, true)) (fun K => pvv prog (oEq .eql 3 (.tmp 63) (.const (.int .i64 0)) t_37 (.int .i64 0)) w K) w fun t_38 w =>
  pv prog (oPick t_34 t_38 (.bool false)) w fun t_39 w =>
  gate (some (t_39, true)) (fun K => K (.pointer none) w) w fun t_40 w =>
  gate (some (t_39, true)) (fun K => Calls prog 19 #[t_40] w (Ret K)) w fun t_41 w =>
  gate (some (t_39, true)) (fun K => pvv prog (Instr.build 36 #[]) w K) w fun t_42 w =>
  gate (some (t_39, true)) (fun K => pvv prog (oEq .eql 36 (.tmp 68) (.tmp 69) t_41 t_42) w K) w fun t_43 w =>
  pv prog (oPick t_39 t_43 (.bool false)) w fun t_44 w =>
  gate (some (t_44, true)) (fun K => K (.pointer none) w) w fun t_45 w =>
  gate (some (t_44, true)) (fun K => Calls prog 15 #[t_45] w (Ret K)) w fun t_46 w =>
  gate (some (t_44, true)) (fun K => pvv prog (oEq .eql 3 (.tmp 74) (.const (.int .i64 0)) t_46 (.int .i64 0)) w K) w fun t_47 w =>
  pv prog (oPick t_44 t_47 (.bool false)) w fun t_48 w =>
  gate (some (t_48, true)) (fun K => K (.pointer none) w) w fun t_49 w =>
  gate (some (t_48, true)) (fun K => Calls prog 24 #[t_49] w (Ret K)) w fun t_50 w =>
  gate (some (t_48, true)) (fun K => pv prog (oBi .len #[51] 3 #[false] #[t_50]) w K) w fun t_51 w =>
  gate (some (t_48, true)) (fun K => pvv prog (oEq .eql 3 (.tmp 80) (.const (.int .i64 0)) t_51 (.int .i64 0)) w K) w fun t_52 w =>
  pv prog (oPick t_48 t_52 (.bool false)) w fun t_53 w =>
  gate (some (t_53, true)) (fun K => K (.pointer none) w) w fun t_54 w =>
  gate (some (t_53, true)) (fun K => Calls prog 21 #[t_54] w (Ret K)) w fun t_55 w =>
  gate (some (t_53, true)) (fun K => pvv prog (oEq .eql 23 (.tmp 85) (.const (.pointer none)) t_55 (.pointer none)) w K) w fun t_56 w =>
  pv prog (oPick t_53 t_56 (.bool false)) w fun t_57 w =>
  K t_57 w)))))
theorem B7_eq (n_p0 s_p1 : Value) (w : World) (K : Value → World → Prop) : denFn prog Tryd.f7 T7 [n_p0, s_p1] w K = B7 n_p0 s_p1 w K := by kernel_rfl
theorem c7 {n_p0 s_p1 : Value} {w : World} {K : Value → World → Prop} (h : B7 n_p0 s_p1 w K) : Calls prog 7 #[n_p0, s_p1] w (Ret K) :=
  denFn_calls Tryd.func7 T7_ok (Eq.mpr (B7_eq n_p0 s_p1 w K) h)

-- 23 holdfast/holdfastlaw14.same
def T23 : Ann := (.seq .none (.seq .none (.seq .none (.seq .none (.seq (.seq .none (.seq (.seq .none .none) .none)) (.seq (.seq .none (.block (.loop 1180555591920392341520 [11] (.seq (.seq .none (.seq .none .none)) (.seq (.block (.seq (.draw [(0, .pure), (1, .pure), (2, .pure), (4, .pure), (5, .pure), (6, .pure), (3, .load), (7, .load), (8, .pure)]) (.seq (.seq .none .none) .none))) .none))))) (.seq .none .none)))))))
theorem T23_ok : chkFn prog Tryd.f23 T23 = true := by kernel_rfl
def B23 (c_p0 r_p1 : Value) (w : World) (K : Value → World → Prop) : Prop :=
  Calls prog 13 #[c_p0] w (Ret fun t_0 w =>
  Calls prog 33 #[r_p1] w (Ret fun t_1 w =>
  Calls prog 14 #[c_p0] w (Ret fun t_2 w =>
  pvv prog (Instr.extract t_2 0) w fun t_3 w =>
  pvv prog (Instr.extract t_2 1) w fun t_4 w =>
  efv prog (Instr.alloc 36 true (.tuple #[])) w fun h_5 w =>
  efu prog (Instr.storeAt 36 h_5 t_4) w fun u_6 w =>
  Calls prog 34 #[r_p1] w (Ret fun t_7 w =>
  pvv prog (Instr.extract t_7 0) w fun t_8 w =>
  pvv prog (Instr.extract t_7 1) w fun t_9 w =>
  efv prog (Instr.alloc 36 true (.tuple #[])) w fun g_10 w =>
  efu prog (Instr.storeAt 36 g_10 t_9) w fun u_11 w =>
  pv prog (oBi .len #[31] 3 #[false] #[t_0]) w fun t_12 w =>
  pv prog (oBi .len #[31] 3 #[false] #[t_1]) w fun t_13 w =>
  pvv prog (oEq .neq 3 (.tmp 27) (.tmp 29) t_12 t_13) w fun t_14 w =>
  gate (some (t_14, false)) (fun K => K t_3 w) w fun t_15 w =>
  gate (some (t_14, false)) (fun K => K t_8 w) w fun t_16 w =>
  gate (some (t_14, false)) (fun K => pvv prog (oEq .neq 3 (.tmp 32) (.tmp 33) t_15 t_16) w K) w fun t_17 w =>
  pv prog (oPick t_14 (.bool true) t_17) w fun t_18 w =>
  gate (some (t_18, false)) (fun K => ldv prog (Instr.loadAt 36 h_5) w K) w fun t_19 w =>
  gate (some (t_18, false)) (fun K => ldv prog (Instr.loadAt 36 g_10) w K) w fun t_20 w =>
  gate (some (t_18, false)) (fun K => pvv prog (oEq .neq 36 (.tmp 37) (.tmp 38) t_19 t_20) w K) w fun t_21 w =>
  pv prog (oPick t_18 (.bool true) t_21) w fun t_22 w =>
  gate (some (t_22, false)) (fun K => K c_p0 w) w fun t_23 w =>
  gate (some (t_22, false)) (fun K => Calls prog 19 #[t_23] w (Ret K)) w fun t_24 w =>
  gate (some (t_22, false)) (fun K => K r_p1 w) w fun t_25 w =>
  gate (some (t_22, false)) (fun K => Calls prog 35 #[t_25] w (Ret K)) w fun t_26 w =>
  gate (some (t_22, false)) (fun K => pvv prog (oEq .neq 36 (.tmp 43) (.tmp 45) t_24 t_26) w K) w fun t_27 w =>
  pv prog (oPick t_22 (.bool true) t_27) w fun t_28 w =>
  gate (some (t_28, false)) (fun K => K c_p0 w) w fun t_29 w =>
  gate (some (t_28, false)) (fun K => Calls prog 15 #[t_29] w (Ret K)) w fun t_30 w =>
  gate (some (t_28, false)) (fun K => K r_p1 w) w fun t_31 w =>
  gate (some (t_28, false)) (fun K => Calls prog 36 #[t_31] w (Ret K)) w fun t_32 w =>
  gate (some (t_28, false)) (fun K => pvv prog (oEq .neq 3 (.tmp 50) (.tmp 52) t_30 t_32) w K) w fun t_33 w =>
  pv prog (oPick t_28 (.bool true) t_33) w fun t_34 w =>
  cd t_34 (
    K (.bool false) w) <|
  lp (fun σ w again_36 => pop σ fun i_35 σ => fin σ <|
    pv prog (oBi .len #[31] 3 #[false] #[t_0]) w fun t_37 w =>
    pvv prog (binOp .lss 3 i_35 t_37) w fun t_38 w =>
    cd t_38 (
      dr w fun w =>
      pvv prog (Instr.indexAt 31 t_0 i_35) w fun t_39 w =>
      pvv prog (Instr.indexAt 31 t_1 i_35) w fun t_40 w =>
      bindS (vN (Instr.loadAt 34 t_39)) fun m_42 => ldv prog (Instr.loadAt 34 t_39) w fun t_41 w =>
      bindS (vN (Instr.loadAt 34 t_40)) fun m_44 => ldv prog (Instr.loadAt 34 t_40) w fun t_43 w =>
      pvv prog (oEq .neq 34 (.tmp 64) (.tmp 68) t_41 t_43) w fun t_45 w =>
      cd t_45 (
        K (.bool false) w) <|
      pvv prog (binOp .add 3 i_35 (.int .i64 1)) w fun t_46 w =>
      again_36 [t_46] w) <|
    Calls prog 24 #[c_p0] w (Ret fun t_47 w =>
    Calls prog 38 #[r_p1] w (Ret fun t_48 w =>
    Calls prog 37 #[t_47, t_48] w (Ret fun t_49 w =>
    K t_49 w)))) [(.int .i64 0)] w))))
theorem B23_eq (c_p0 r_p1 : Value) (w : World) (K : Value → World → Prop) : denFn prog Tryd.f23 T23 [c_p0, r_p1] w K = B23 c_p0 r_p1 w K := by kernel_rfl
theorem c23 {c_p0 r_p1 : Value} {w : World} {K : Value → World → Prop} (h : B23 c_p0 r_p1 w K) : Calls prog 23 #[c_p0, r_p1] w (Ret K) :=
  denFn_calls Tryd.func23 T23_ok (Eq.mpr (B23_eq c_p0 r_p1 w K) h)

-- 37 holdfast/holdfastref06.SameRows
def T37 : Ann := (.seq .none (.seq (.seq .none (.seq (.seq .none .none) .none)) (.seq (.seq .none (.block (.loop 4398046509104 [5] (.seq (.seq .none (.seq .none .none)) (.seq (.block (.seq (.draw [(0, .pure), (1, .pure), (2, .pure), (3, .pure), (5, .pure), (6, .pure), (7, .pure), (8, .pure), (4, .load), (9, .load), (10, .pure), (11, .pure), (12, .pure), (13, .pure), (14, .pure), (15, .pure), (17, .pure), (18, .pure), (19, .pure), (20, .pure), (16, .load), (21, .load), (22, .eff), (23, .pure), (24, .pure)]) (.seq (.seq .none .none) .none))) .none))))) (.seq .none .none))))
theorem T37_ok : chkFn prog Tryd.f37 T37 = true := by kernel_rfl
def B37 (a_p0 b_p1 : Value) (w : World) (K : Value → World → Prop) : Prop :=
  pv prog (oBi .len #[51] 3 #[false] #[a_p0]) w fun t_0 w =>
  pv prog (oBi .len #[51] 3 #[false] #[b_p1]) w fun t_1 w =>
  pvv prog (oEq .neq 3 (.tmp 7) (.tmp 9) t_0 t_1) w fun t_2 w =>
  cd t_2 (
    K (.bool false) w) <|
  lp (fun σ w again_4 => pop σ fun i_3 σ => fin σ <|
    pv prog (oBi .len #[51] 3 #[false] #[a_p0]) w fun t_5 w =>
    pvv prog (binOp .lss 3 i_3 t_5) w fun t_6 w =>
    cd t_6 (
      dr w fun w =>
      pvv prog (Instr.indexAt 51 a_p0 i_3) w fun t_7 w =>
      pvv prog (Instr.fieldAt 71 t_7 0) w fun t_8 w =>
      pvv prog (Instr.indexAt 51 b_p1 i_3) w fun t_9 w =>
      pvv prog (Instr.fieldAt 71 t_9 0) w fun t_10 w =>
      bindS (vN (Instr.loadAt 9 t_8)) fun m_12 => ldv prog (Instr.loadAt 9 t_8) w fun t_11 w =>
      bindS (vN (Instr.loadAt 9 t_10)) fun m_14 => ldv prog (Instr.loadAt 9 t_10) w fun t_13 w =>
      pvv prog (oEq .neq 9 (.tmp 21) (.tmp 26) t_11 t_13) w fun t_15 w =>
      gate (some (t_15, false)) (fun K => K a_p0 w) w fun t_16 w =>
      gate (some (t_15, false)) (fun K => K i_3 w) w fun t_17 w =>
      gate (some (t_15, false)) (fun K => pvv prog (Instr.indexAt 51 t_16 t_17) w K) w fun t_18 w =>
      gate (some (t_15, false)) (fun K => pvv prog (Instr.fieldAt 71 t_18 1) w K) w fun t_19 w =>
      gate (some (t_15, false)) (fun K => K b_p1 w) w fun t_20 w =>
      gate (some (t_15, false)) (fun K => K i_3 w) w fun t_21 w =>
      gate (some (t_15, false)) (fun K => pvv prog (Instr.indexAt 51 t_20 t_21) w K) w fun t_22 w =>
      gate (some (t_15, false)) (fun K => pvv prog (Instr.fieldAt 71 t_22 1) w K) w fun t_23 w =>
      bindS (vN (Instr.loadAt 69 t_19)) fun m_25 => gate (some (t_15, false)) (fun K => ldv prog (Instr.loadAt 69 t_19) w K) w fun t_24 w =>
      bindS (vN (Instr.loadAt 69 t_23)) fun m_27 => gate (some (t_15, false)) (fun K => ldv prog (Instr.loadAt 69 t_23) w K) w fun t_26 w =>
      gate (some (t_15, false)) (fun K => Calls prog 48 #[t_24, t_26] w (Ret fun s_32 w => stay prog none m_14 t_13 w <| stay prog none m_12 t_11 w <| K s_32 w)) w fun t_28 w =>
      gate (some (t_15, false)) (fun K => pvv prog (Op.unary .not t_28) w K) w fun t_29 w =>
      pv prog (oPick t_15 (.bool true) t_29) w fun t_30 w =>
      cd t_30 (
        K (.bool false) w) <|
      pvv prog (binOp .add 3 i_3 (.int .i64 1)) w fun t_31 w =>
      again_4 [t_31] w) <|
    K (.bool true) w) [(.int .i64 0)] w
theorem B37_eq (a_p0 b_p1 : Value) (w : World) (K : Value → World → Prop) : denFn prog Tryd.f37 T37 [a_p0, b_p1] w K = B37 a_p0 b_p1 w K := by kernel_rfl
theorem c37 {a_p0 b_p1 : Value} {w : World} {K : Value → World → Prop} (h : B37 a_p0 b_p1 w K) : Calls prog 37 #[a_p0, b_p1] w (Ret K) :=
  denFn_calls Tryd.func37 T37_ok (Eq.mpr (B37_eq a_p0 b_p1 w K) h)

-- 6 holdfast/holdfastlaw14.AuditPlays
def T6 : Ann := (.seq .none (.seq .none (.seq (.seq .none (.seq (.seq .none .none) .none)) (.seq .none (.seq (.seq .none (.block (.loop 8796092956900 [5, 6, 7] (.seq (.seq .none (.seq .none .none)) (.seq (.block (.meet 34292629600 [5, 6] (.seq .none (.seq .none .none)) (.seq .none (.seq (.seq .none .none) .none)))) .none))))) (.seq .none .none))))))
theorem T6_ok : chkFn prog Tryd.f6 T6 = true := by kernel_rfl
def B6 (l_p0 : Value) (w : World) (K : Value → World → Prop) : Prop :=
  Calls prog 9 #[] w (Ret fun t_0 w =>
  Calls prog 10 #[] w (Ret fun t_1 w =>
  Calls prog 11 #[] w (Ret fun t_2 w =>
  pvv prog (Op.unary .not t_2) w fun t_3 w =>
  cd t_3 (
    K (.bool false) w) <|
  Calls prog 21 #[t_0] w (Ret fun t_4 w =>
  Calls prog 22 #[t_1] w (Ret fun t_5 w =>
  lp (fun σ w again_9 => pop σ fun g_6 σ => pop σ fun h_7 σ => pop σ fun i_8 σ => fin σ <|
    pv prog (oBi .len #[22] 3 #[false] #[l_p0]) w fun t_10 w =>
    pvv prog (binOp .lss 3 i_8 t_10) w fun t_11 w =>
    gate (some (t_11, true)) (fun K => K i_8 w) w fun t_12 w =>
    gate (some (t_11, true)) (fun K => pvv prog (binOp .lss 3 t_12 (.int .i64 100)) w K) w fun t_13 w =>
    pv prog (oPick t_11 t_13 (.bool false)) w fun t_14 w =>
    cd t_14 (
      jn (fun σ w => pop σ fun g_15 σ => pop σ fun h_16 σ => fin σ <|
        pvv prog (Instr.indexAt 22 l_p0 i_8) w fun t_17 w =>
        ldv prog (Instr.loadAt 30 t_17) w fun t_18 w =>
        Calls prog 12 #[t_0, t_1, t_18] w (Ret fun t_19 w =>
        pvv prog (Op.unary .not t_19) w fun t_20 w =>
        cd t_20 (
          K (.bool false) w) <|
        pvv prog (binOp .add 3 i_8 (.int .i64 1)) w fun t_21 w =>
        again_9 [g_15, h_16, t_21] w)) fun k_22 =>
      pv prog (oBi .len #[22] 3 #[false] #[l_p0]) w fun t_23 w =>
      pvv prog (binOp .quo 3 t_23 (.int .i64 2)) w fun t_24 w =>
      pvv prog (oEq .eql 3 (.tmp 26) (.tmp 29) i_8 t_24) w fun t_25 w =>
      cd t_25 (
        Calls prog 21 #[t_0] w (Ret fun t_26 w =>
        Calls prog 22 #[t_1] w (Ret fun t_27 w =>
        k_22 [t_26, t_27] w))) <|
      k_22 [g_6, h_7] w) <|
    Calls prog 23 #[t_0, t_1] w (Ret fun t_28 w =>
    gate (some (t_28, true)) (fun K => K g_6 w) w fun t_29 w =>
    gate (some (t_28, true)) (fun K => K h_7 w) w fun t_30 w =>
    gate (some (t_28, true)) (fun K => Calls prog 23 #[t_29, t_30] w (Ret K)) w fun t_31 w =>
    pv prog (oPick t_28 t_31 (.bool false)) w fun t_32 w =>
    K t_32 w)) [t_4, t_5, (.int .i64 0)] w)))))
theorem B6_eq (l_p0 : Value) (w : World) (K : Value → World → Prop) : denFn prog Tryd.f6 T6 [l_p0] w K = B6 l_p0 w K := by kernel_rfl
theorem c6 {l_p0 : Value} {w : World} {K : Value → World → Prop} (h : B6 l_p0 w K) : Calls prog 6 #[l_p0] w (Ret K) :=
  denFn_calls Tryd.func6 T6_ok (Eq.mpr (B6_eq l_p0 w K) h)

-- 63 strings.Trim
def T63 : Ann := (.seq .none (.seq (.seq .none (.seq (.seq .none .none) .none)) (.seq (.seq .none (.seq (.seq (.draw [(0, .pure), (1, .pure), (2, .pure), (4, .pure), (5, .pure), (3, .eff), (6, .eff), (7, .pure)]) .none) .none)) (.seq (.seq .none (.seq .none (.seq (.seq .none .none) .none))) (.seq .none .none)))))
theorem T63_ok : chkFn prog Tryd.f63 T63 = true := by kernel_rfl
def B63 (s_p0 cutset_p1 : Value) (w : World) (K : Value → World → Prop) : Prop :=
  pvv prog (oEq .eql 9 (.tmp 7) (.const (.string ⟨#[]⟩)) s_p0 (.string ⟨#[]⟩)) w fun t_0 w =>
  gate (some (t_0, false)) (fun K => K cutset_p1 w) w fun t_1 w =>
  gate (some (t_0, false)) (fun K => pvv prog (oEq .eql 9 (.tmp 10) (.const (.string ⟨#[]⟩)) t_1 (.string ⟨#[]⟩)) w K) w fun t_2 w =>
  pv prog (oPick t_0 (.bool true) t_2) w fun t_3 w =>
  cd t_3 (
    K s_p0 w) <|
  pv prog (oBi .len #[9] 3 #[false] #[cutset_p1]) w fun t_4 w =>
  pvv prog (oEq .eql 3 (.tmp 15) (.const (.int .i64 1)) t_4 (.int .i64 1)) w fun t_5 w =>
  gate (some (t_5, true)) (fun K => K cutset_p1 w) w fun t_6 w =>
  gate (some (t_5, true)) (fun K => pvv prog (Instr.index 9 t_6 (.int .i64 0)) w K) w fun t_7 w =>
  gate (some (t_5, true)) (fun K => pvv prog (binOp .lss 5 t_7 (.int .u8 128)) w K) w fun t_8 w =>
  pv prog (oPick t_5 t_8 (.bool false)) w fun t_9 w =>
  cd t_9 (
    dr w fun w =>
    pvv prog (Instr.index 9 cutset_p1 (.int .i64 0)) w fun t_10 w =>
    pvv prog (Instr.index 9 cutset_p1 (.int .i64 0)) w fun t_11 w =>
    Calls prog 75 #[s_p0, t_10] w (Ret fun t_12 w =>
    Calls prog 74 #[t_12, t_11] w (Ret fun t_13 w =>
    K t_13 w))) <|
  Calls prog 76 #[cutset_p1] w (Ret fun t_16 w =>
  pvv prog (Instr.extract t_16 0) w fun t_17 w =>
  pvv prog (Instr.extract t_16 1) w fun t_18 w =>
  efv prog (Instr.alloc 115 true (.tuple #[])) w fun as_19 w =>
  efu prog (Instr.storeAt 115 as_19 t_17) w fun u_20 w =>
  cd t_18 (
    Calls prog 78 #[s_p0, as_19] w (Ret fun t_21 w =>
    Calls prog 77 #[t_21, as_19] w (Ret fun t_22 w =>
    K t_22 w))) <|
  Calls prog 80 #[s_p0, cutset_p1] w (Ret fun t_23 w =>
  Calls prog 79 #[t_23, cutset_p1] w (Ret fun t_24 w =>
  K t_24 w)))
theorem B63_eq (s_p0 cutset_p1 : Value) (w : World) (K : Value → World → Prop) : denFn prog Tryd.f63 T63 [s_p0, cutset_p1] w K = B63 s_p0 cutset_p1 w K := by kernel_rfl
theorem c63 {s_p0 cutset_p1 : Value} {w : World} {K : Value → World → Prop} (h : B63 s_p0 cutset_p1 w K) : Calls prog 63 #[s_p0, cutset_p1] w (Ret K) :=
  denFn_calls Tryd.func63 T63_ok (Eq.mpr (B63_eq s_p0 cutset_p1 w K) h)

-- 45 holdfast/codec.Row
def T45 : Ann := (.seq .none (.seq (.seq .none (.seq (.seq .none .none) .none)) (.seq .none (.seq (.seq .none (.block (.loop 4294901852 [4, 16] (.seq .none (.seq (.seq .none .none) (.seq (.block (.seq .none (.seq (.seq .none (.seq (.seq .none .none) .none)) .none))) .none)))))) (.seq (.seq .none (.seq (.seq .none .none) .none)) (.seq .none .none))))))
theorem T45_ok : chkFn prog Tryd.f45 T45 = true := by kernel_rfl
def B45 (columns_p0 : Value) (w : World) (K : Value → World → Prop) : Prop :=
  pv prog (oBi .len #[69] 3 #[false] #[columns_p0]) w fun t_0 w =>
  pvv prog (binOp .gtr 3 t_0 (.int .i64 8)) w fun t_1 w =>
  cd t_1 (
    K (.tuple #[(.slice none 0 0), (.int .i64 2)]) w) <|
  pv prog (oBi .len #[69] 3 #[false] #[columns_p0]) w fun t_2 w =>
  pvv prog (convert 3 5 t_2) w fun t_3 w =>
  efv prog (Instr.buildSlice 72 1 #[(0, t_3)]) w fun t_4 w =>
  pv prog (oBi .len #[69] 3 #[false] #[columns_p0]) w fun t_5 w =>
  lp (fun σ w again_8 => pop σ fun out_6 σ => pop σ fun t_7 σ => fin σ <|
    pvv prog (binOp .lss 3 t_7 t_5) w fun t_9 w =>
    cd t_9 (
      pvv prog (Instr.indexAt 69 columns_p0 t_7) w fun t_10 w =>
      ldv prog (Instr.loadAt 9 t_10) w fun t_11 w =>
      pv prog (oBi .len #[9] 3 #[false] #[t_11]) w fun t_12 w =>
      pvv prog (binOp .gtr 3 t_12 (.int .i64 70)) w fun t_13 w =>
      cd t_13 (
        K (.tuple #[(.slice none 0 0), (.int .i64 6)]) w) <|
      pv prog (oBi .len #[9] 3 #[false] #[t_11]) w fun t_14 w =>
      pvv prog (convert 3 5 t_14) w fun t_15 w =>
      efv prog (Instr.buildSlice 72 1 #[(0, t_15)]) w fun t_16 w =>
      ef prog (oBi .append #[72, 72] 72 #[false, false] #[out_6, t_16]) w fun t_17 w =>
      ef prog (oBi .append #[72, 9] 72 #[false, false] #[t_17, t_11]) w fun t_18 w =>
      pvv prog (binOp .add 3 t_7 (.int .i64 1)) w fun t_19 w =>
      again_8 [t_18, t_19] w) <|
    pv prog (oBi .len #[72] 3 #[false] #[out_6]) w fun t_20 w =>
    pvv prog (binOp .gtr 3 t_20 (.int .i64 72)) w fun t_21 w =>
    cd t_21 (
      K (.tuple #[(.slice none 0 0), (.int .i64 6)]) w) <|
    K (.tuple #[out_6, (.int .i64 0)]) w) [t_4, (.int .i64 0)] w
theorem B45_eq (columns_p0 : Value) (w : World) (K : Value → World → Prop) : denFn prog Tryd.f45 T45 [columns_p0] w K = B45 columns_p0 w K := by kernel_rfl
theorem c45 {columns_p0 : Value} {w : World} {K : Value → World → Prop} (h : B45 columns_p0 w K) : Calls prog 45 #[columns_p0] w (Ret K) :=
  denFn_calls Tryd.func45 T45_ok (Eq.mpr (B45_eq columns_p0 w K) h)

-- 44 (*holdfast/holdfastref14.Chain).At
def T44 : Ann := (.seq .none (.seq .none (.seq (.seq .none (.block (.loop 67106880 [6] (.seq (.seq .none (.seq .none .none)) (.seq (.block (.draw [(1, .pure), (2, .pure), (3, .pure), (5, .pure), (0, .load), (4, .load), (6, .pure), (7, .load), (8, .eff), (9, .eff), (10, .eff)])) .none))))) (.seq .none .none))))
theorem T44_ok : chkFn prog Tryd.f44 T44 = true := by kernel_rfl
def B44 (c_p0 k_p1 : Value) (w : World) (K : Value → World → Prop) : Prop :=
  efv prog (Instr.alloc 36 true (.tuple #[])) w fun t_0 w =>
  pv prog (oNil c_p0) w fun t_1 w =>
  pvv prog (Instr.fieldAt 61 t_1 3) w fun t_2 w =>
  ldv prog (Instr.loadAt 36 t_2) w fun t_3 w =>
  efv prog (Instr.alloc 36 true (.tuple #[])) w fun h_4 w =>
  efu prog (Instr.storeAt 36 h_4 t_3) w fun u_5 w =>
  lp (fun σ w again_7 => pop σ fun i_6 σ => fin σ <|
    pvv prog (binOp .lss 3 i_6 k_p1) w fun t_8 w =>
    cd t_8 (
      dr w fun w =>
      pv prog (oNil c_p0) w fun t_9 w =>
      pvv prog (Instr.fieldAt 61 t_9 6) w fun t_10 w =>
      bindS (vN (Instr.loadAt 36 h_4)) fun m_12 => ldv prog (Instr.loadAt 36 h_4) w fun t_11 w =>
      bindS (vN (Instr.loadAt 31 t_10)) fun m_14 => ldv prog (Instr.loadAt 31 t_10) w fun t_13 w =>
      pvv prog (Instr.indexAt 31 t_13 i_6) w fun t_15 w =>
      bindS (vN (Instr.loadAt 34 t_15)) fun m_17 => ldv prog (Instr.loadAt 34 t_15) w fun t_16 w =>
      Calls prog 43 #[t_16] w (Ret fun t_18 w => stay prog none m_14 t_13 w <| stay prog none m_12 t_11 w <| 
      Calls prog 42 #[t_11, t_18] w (Ret fun t_19 w => stay prog none m_17 t_16 w <| stay prog none m_14 t_13 w <| 
      efu prog (Instr.storeAt 36 h_4 t_19) w fun u_20 w =>
      pvv prog (binOp .add 3 i_6 (.int .i64 1)) w fun t_21 w =>
      again_7 [t_21] w))) <|
    ldv prog (Instr.loadAt 36 h_4) w fun t_25 w =>
    efu prog (Instr.storeAt 36 t_0 t_25) w fun u_26 w =>
    ∃ r_27, (do loadVar 36 (← asAddr t_0)).run prog w = .ok r_27 w ∧ K r_27 w) [(.int .i64 0)] w
theorem B44_eq (c_p0 k_p1 : Value) (w : World) (K : Value → World → Prop) : denFn prog Tryd.f44 T44 [c_p0, k_p1] w K = B44 c_p0 k_p1 w K := by kernel_rfl
theorem c44 {c_p0 k_p1 : Value} {w : World} {K : Value → World → Prop} (h : B44 c_p0 k_p1 w K) : Calls prog 44 #[c_p0, k_p1] w (Ret K) :=
  denFn_calls Tryd.func44 T44_ok (Eq.mpr (B44_eq c_p0 k_p1 w K) h)

-- 43 holdfast/holdfastref14.Bytes
def T43 : Ann := (.seq .none (.seq (.draw [(0, .pure), (3, .pure), (6, .pure), (8, .pure), (1, .load), (4, .load), (7, .load), (9, .load), (2, .eff), (5, .eff), (10, .eff), (11, .eff), (12, .pure), (13, .pure), (14, .pure), (15, .pure), (16, .pure)]) (.seq .none .none)))
theorem T43_ok : chkFn prog Tryd.f43 T43 = true := by kernel_rfl
def B43 (x_p0 : Value) (w : World) (K : Value → World → Prop) : Prop :=
  efv prog (Instr.box 34 x_p0) w fun x_0 w =>
  dr w fun w =>
  pvv prog (Instr.fieldAt 34 x_0 0) w fun t_1 w =>
  pvv prog (Instr.fieldAt 34 x_0 1) w fun t_2 w =>
  pvv prog (Instr.fieldAt 34 x_0 2) w fun t_3 w =>
  pvv prog (Instr.fieldAt 34 x_0 3) w fun t_4 w =>
  bindS (vN (Instr.loadAt 3 t_1)) fun m_6 => ldv prog (Instr.loadAt 3 t_1) w fun t_5 w =>
  bindS (vN (Instr.loadAt 3 t_2)) fun m_8 => ldv prog (Instr.loadAt 3 t_2) w fun t_7 w =>
  bindS (vN (Instr.loadAt 9 t_3)) fun m_10 => ldv prog (Instr.loadAt 9 t_3) w fun t_9 w =>
  bindS (vN (Instr.loadAt 9 t_4)) fun m_12 => ldv prog (Instr.loadAt 9 t_4) w fun t_11 w =>
  Calls prog 49 #[t_5] w (Ret fun t_13 w => stay prog none m_12 t_11 w <| stay prog none m_10 t_9 w <| stay prog none m_8 t_7 w <| 
  Calls prog 49 #[t_7] w (Ret fun t_14 w => stay prog none m_12 t_11 w <| stay prog none m_10 t_9 w <| stay prog none m_6 t_5 w <| 
  efv prog (Instr.buildSlice 69 4 #[(0, t_13), (1, t_14), (2, t_9), (3, t_11)]) w fun t_15 w => stay prog none m_8 t_7 w <| stay prog none m_6 t_5 w <| 
  Calls prog 56 #[t_15] w (Ret fun t_16 w => stay prog none m_12 t_11 w <| stay prog none m_10 t_9 w <| stay prog none m_8 t_7 w <| stay prog none m_6 t_5 w <| 
  pvv prog (Instr.extract t_16 0) w fun t_17 w =>
  pvv prog (Instr.extract t_16 1) w fun t_18 w =>
  K t_17 w)))
theorem B43_eq (x_p0 : Value) (w : World) (K : Value → World → Prop) : denFn prog Tryd.f43 T43 [x_p0] w K = B43 x_p0 w K := by kernel_rfl
theorem c43 {x_p0 : Value} {w : World} {K : Value → World → Prop} (h : B43 x_p0 w K) : Calls prog 43 #[x_p0] w (Ret K) :=
  denFn_calls Tryd.func43 T43_ok (Eq.mpr (B43_eq x_p0 w K) h)

-- 17 (*holdfast/audit.Chain).Anchor
def T17 : Ann := (.seq .none (.seq (.seq .none (.seq (.seq .none .none) .none)) (.seq (.draw [(0, .pure), (1, .pure), (3, .pure), (4, .pure), (5, .pure), (6, .load), (2, .eff), (7, .pure), (8, .pure), (9, .pure), (10, .eff)]) (.seq .none .none))))
theorem T17_ok : chkFn prog Tryd.f17 T17 = true := by kernel_rfl
def B17 (c_p0 : Value) (w : World) (K : Value → World → Prop) : Prop :=
  efv prog (Instr.alloc 36 true (.tuple #[])) w fun t_0 w =>
  pvv prog (oEq .eql 23 (.tmp 4) (.const (.pointer none)) c_p0 (.pointer none)) w fun t_1 w =>
  cd t_1 (
    pvv prog (Instr.build 36 #[]) w fun t_2 w =>
    efu prog (Instr.storeAt 36 t_0 t_2) w fun u_3 w =>
    ∃ r_4, (do loadVar 36 (← asAddr t_0)).run prog w = .ok r_4 w ∧ K (.tuple #[(.int .i64 0), r_4]) w) <|
  dr w fun w =>
  pv prog (oNil c_p0) w fun t_5 w =>
  pvv prog (Instr.fieldAt 59 t_5 2) w fun t_6 w =>
  bindS (vN (Instr.loadAt 36 t_6)) fun m_8 => ldv prog (Instr.loadAt 36 t_6) w fun t_7 w =>
  Calls prog 15 #[c_p0] w (Ret fun t_9 w => stay prog none m_8 t_7 w <| 
  pvv prog (Instr.build 57 #[(0, t_9), (1, t_7)]) w fun t_10 w =>
  pv prog (oNil c_p0) w fun t_11 w =>
  pvv prog (Instr.fieldAt 59 t_11 1) w fun t_12 w =>
  efu prog (Instr.storeAt 57 t_12 t_10) w fun u_13 w =>
  Calls prog 14 #[c_p0] w (Ret fun t_14 w =>
  pvv prog (Instr.extract t_14 0) w fun t_15 w =>
  pvv prog (Instr.extract t_14 1) w fun t_16 w =>
  efu prog (Instr.storeAt 36 t_0 t_16) w fun u_17 w =>
  ∃ r_18, (do loadVar 36 (← asAddr t_0)).run prog w = .ok r_18 w ∧ K (.tuple #[t_15, r_18]) w))
theorem B17_eq (c_p0 : Value) (w : World) (K : Value → World → Prop) : denFn prog Tryd.f17 T17 [c_p0] w K = B17 c_p0 w K := by kernel_rfl
theorem c17 {c_p0 : Value} {w : World} {K : Value → World → Prop} (h : B17 c_p0 w K) : Calls prog 17 #[c_p0] w (Ret K) :=
  denFn_calls Tryd.func17 T17_ok (Eq.mpr (B17_eq c_p0 w K) h)

-- 75 strings.trimRightByte
def T75 : Ann := (.seq .none (.seq (.block (.loop 4194273 [0] (.seq (.seq .none (.seq .none .none)) (.block .none)))) (.seq .none .none)))
theorem T75_ok : chkFn prog Tryd.f75 T75 = true := by kernel_rfl
def B75 (s_p0 c_p1 : Value) (w : World) (K : Value → World → Prop) : Prop :=
  lp (fun σ w again_1 => pop σ fun s_0 σ => fin σ <|
    pv prog (oBi .len #[9] 3 #[false] #[s_0]) w fun t_2 w =>
    pvv prog (binOp .gtr 3 t_2 (.int .i64 0)) w fun t_3 w =>
    gate (some (t_3, true)) (fun K => K s_0 w) w fun t_4 w =>
    gate (some (t_3, true)) (fun K => K s_0 w) w fun t_5 w =>
    gate (some (t_3, true)) (fun K => pv prog (oBi .len #[9] 3 #[false] #[t_5]) w K) w fun t_6 w =>
    gate (some (t_3, true)) (fun K => pvv prog (binOp .sub 3 t_6 (.int .i64 1)) w K) w fun t_7 w =>
    gate (some (t_3, true)) (fun K => pvv prog (Instr.index 9 t_4 t_7) w K) w fun t_8 w =>
    gate (some (t_3, true)) (fun K => K c_p1 w) w fun t_9 w =>
    gate (some (t_3, true)) (fun K => pvv prog (oEq .eql 5 (.tmp 13) (.tmp 14) t_8 t_9) w K) w fun t_10 w =>
    pv prog (oPick t_3 t_10 (.bool false)) w fun t_11 w =>
    cd t_11 (
      pv prog (oBi .len #[9] 3 #[false] #[s_0]) w fun t_12 w =>
      pvv prog (binOp .sub 3 t_12 (.int .i64 1)) w fun t_13 w =>
      pvv prog (Instr.sliceAt 9 s_0 none (some t_13) none) w fun t_14 w =>
      again_1 [t_14] w) <|
    K s_0 w) [s_p0] w
theorem B75_eq (s_p0 c_p1 : Value) (w : World) (K : Value → World → Prop) : denFn prog Tryd.f75 T75 [s_p0, c_p1] w K = B75 s_p0 c_p1 w K := by kernel_rfl
theorem c75 {s_p0 c_p1 : Value} {w : World} {K : Value → World → Prop} (h : B75 s_p0 c_p1 w K) : Calls prog 75 #[s_p0, c_p1] w (Ret K) :=
  denFn_calls Tryd.func75 T75_ok (Eq.mpr (B75_eq s_p0 c_p1 w K) h)

-- 52 holdfast/codec.Number
def T52 : Ann := (.seq .none (.seq (.seq .none (.seq (.seq .none .none) .none)) (.seq .none (.seq .none .none))))
theorem T52_ok : chkFn prog Tryd.f52 T52 = true := by kernel_rfl
def B52 (n_p0 : Value) (w : World) (K : Value → World → Prop) : Prop :=
  pvv prog (binOp .lss 3 n_p0 (.int .i64 0)) w fun t_0 w =>
  gate (some (t_0, false)) (fun K => K n_p0 w) w fun t_1 w =>
  gate (some (t_0, false)) (fun K => pvv prog (binOp .gtr 3 t_1 (.int .i64 4611686018427387904)) w K) w fun t_2 w =>
  pv prog (oPick t_0 (.bool true) t_2) w fun t_3 w =>
  cd t_3 (
    K (.tuple #[(.string ⟨#[]⟩), (.int .i64 2)]) w) <|
  Calls prog 61 #[n_p0, (.int .i64 16)] w (Ret fun t_4 w =>
  Calls prog 60 #[t_4, (.string ⟨#[48]⟩)] w (Ret fun t_5 w =>
  pv prog (oBi .len #[9] 3 #[false] #[t_5]) w fun t_6 w =>
  pvv prog (binOp .add 3 (.int .i64 97) t_6) w fun t_7 w =>
  pvv prog (convert 3 21 t_7) w fun t_8 w =>
  pvv prog (convert 21 9 t_8) w fun t_9 w =>
  pvv prog (binOp .add 9 t_9 t_5) w fun t_10 w =>
  K (.tuple #[t_10, (.int .i64 0)]) w))
theorem B52_eq (n_p0 : Value) (w : World) (K : Value → World → Prop) : denFn prog Tryd.f52 T52 [n_p0] w K = B52 n_p0 w K := by kernel_rfl
theorem c52 {n_p0 : Value} {w : World} {K : Value → World → Prop} (h : B52 n_p0 w K) : Calls prog 52 #[n_p0] w (Ret K) :=
  denFn_calls Tryd.func52 T52_ok (Eq.mpr (B52_eq n_p0 w K) h)

-- 36 (*holdfast/holdfastref14.Chain).Count
def T36 : Ann := (.seq .none (.seq (.seq .none (.seq (.seq .none .none) .none)) (.seq (.draw [(0, .pure), (1, .pure), (2, .pure), (4, .pure), (5, .pure), (6, .pure), (3, .load), (7, .load), (8, .pure), (9, .pure), (10, .pure)]) .none)))
theorem T36_ok : chkFn prog Tryd.f36 T36 = true := by kernel_rfl
def B36 (c_p0 : Value) (w : World) (K : Value → World → Prop) : Prop :=
  pvv prog (oEq .eql 25 (.tmp 3) (.const (.pointer none)) c_p0 (.pointer none)) w fun t_0 w =>
  cd t_0 (
    K (.int .i64 0) w) <|
  dr w fun w =>
  pv prog (oNil c_p0) w fun t_1 w =>
  pvv prog (Instr.fieldAt 61 t_1 0) w fun t_2 w =>
  pv prog (oNil c_p0) w fun t_3 w =>
  pvv prog (Instr.fieldAt 61 t_3 6) w fun t_4 w =>
  bindS (vN (Instr.loadAt 3 t_2)) fun m_6 => ldv prog (Instr.loadAt 3 t_2) w fun t_5 w =>
  bindS (vN (Instr.loadAt 31 t_4)) fun m_8 => ldv prog (Instr.loadAt 31 t_4) w fun t_7 w =>
  pv prog (oBi .len #[31] 3 #[false] #[t_7]) w fun t_9 w =>
  pvv prog (binOp .add 3 t_5 t_9) w fun t_10 w =>
  K t_10 w
theorem B36_eq (c_p0 : Value) (w : World) (K : Value → World → Prop) : denFn prog Tryd.f36 T36 [c_p0] w K = B36 c_p0 w K := by kernel_rfl
theorem c36 {c_p0 : Value} {w : World} {K : Value → World → Prop} (h : B36 c_p0 w K) : Calls prog 36 #[c_p0] w (Ret K) :=
  denFn_calls Tryd.func36 T36_ok (Eq.mpr (B36_eq c_p0 w K) h)

-- 54 holdfast/holdfastref07.bytesOf
def T54 : Ann := (.seq .none (.seq .none (.seq (.seq .none (.block (.loop 32760 [3, 4] (.seq (.seq .none (.seq .none .none)) (.seq (.block .none) .none))))) (.seq .none .none))))
theorem T54_ok : chkFn prog Tryd.f54 T54 = true := by kernel_rfl
def B54 (h_p0 : Value) (w : World) (K : Value → World → Prop) : Prop :=
  efv prog (Instr.box 36 h_p0) w fun h_0 w =>
  lp (fun σ w again_3 => pop σ fun out_1 σ => pop σ fun i_2 σ => fin σ <|
    pvv prog (binOp .lss 3 i_2 (.int .i64 32)) w fun t_4 w =>
    cd t_4 (
      pvv prog (Instr.indexAt 36 h_0 i_2) w fun t_5 w =>
      ldv prog (Instr.loadAt 5 t_5) w fun t_6 w =>
      efv prog (Instr.buildSlice 72 1 #[(0, t_6)]) w fun t_7 w =>
      ef prog (oBi .append #[72, 72] 72 #[false, false] #[out_1, t_7]) w fun t_8 w =>
      pvv prog (binOp .add 3 i_2 (.int .i64 1)) w fun t_9 w =>
      again_3 [t_8, t_9] w) <|
    K out_1 w) [(.slice none 0 0), (.int .i64 0)] w
theorem B54_eq (h_p0 : Value) (w : World) (K : Value → World → Prop) : denFn prog Tryd.f54 T54 [h_p0] w K = B54 h_p0 w K := by kernel_rfl
theorem c54 {h_p0 : Value} {w : World} {K : Value → World → Prop} (h : B54 h_p0 w K) : Calls prog 54 #[h_p0] w (Ret K) :=
  denFn_calls Tryd.func54 T54_ok (Eq.mpr (B54_eq h_p0 w K) h)

-- 35 (*holdfast/holdfastref14.Chain).Head
def T35 : Ann := (.seq .none (.seq (.seq .none (.seq (.seq .none .none) .none)) (.seq .none .none)))
theorem T35_ok : chkFn prog Tryd.f35 T35 = true := by kernel_rfl
def B35 (c_p0 : Value) (w : World) (K : Value → World → Prop) : Prop :=
  efv prog (Instr.alloc 36 true (.tuple #[])) w fun t_0 w =>
  pvv prog (oEq .eql 25 (.tmp 3) (.const (.pointer none)) c_p0 (.pointer none)) w fun t_1 w =>
  cd t_1 (
    pvv prog (Instr.build 36 #[]) w fun t_2 w =>
    efu prog (Instr.storeAt 36 t_0 t_2) w fun u_3 w =>
    ∃ r_4, (do loadVar 36 (← asAddr t_0)).run prog w = .ok r_4 w ∧ K r_4 w) <|
  pv prog (oNil c_p0) w fun t_5 w =>
  pvv prog (Instr.fieldAt 61 t_5 5) w fun t_6 w =>
  ldv prog (Instr.loadAt 36 t_6) w fun t_7 w =>
  efu prog (Instr.storeAt 36 t_0 t_7) w fun u_8 w =>
  ∃ r_9, (do loadVar 36 (← asAddr t_0)).run prog w = .ok r_9 w ∧ K r_9 w
theorem B35_eq (c_p0 : Value) (w : World) (K : Value → World → Prop) : denFn prog Tryd.f35 T35 [c_p0] w K = B35 c_p0 w K := by kernel_rfl
theorem c35 {c_p0 : Value} {w : World} {K : Value → World → Prop} (h : B35 c_p0 w K) : Calls prog 35 #[c_p0] w (Ret K) :=
  denFn_calls Tryd.func35 T35_ok (Eq.mpr (B35_eq c_p0 w K) h)

-- 110 math/bits.TrailingZeros64
def T110 : Ann := (.seq .none (.seq (.seq .none (.seq (.seq .none .none) .none)) (.seq .none .none)))
theorem T110_ok : chkFn prog Tryd.f110 T110 = true := by kernel_rfl
def B110 (x_p0 : Value) (w : World) (K : Value → World → Prop) : Prop :=
  pvv prog (oEq .eql 96 (.tmp 3) (.const (.int .u64 0)) x_p0 (.int .u64 0)) w fun t_0 w =>
  cd t_0 (
    K (.int .i64 64) w) <|
  pvv prog (Op.unary .neg x_p0) w fun t_1 w =>
  pvv prog (binOp .and 96 x_p0 t_1) w fun t_2 w =>
  pvv prog (binOp .mul 96 t_2 (.int .u64 285870213051353865)) w fun t_3 w =>
  pvv prog (binOp .shr 96 t_3 (.int .u64 58)) w fun t_4 w =>
  pvv prog (Instr.indexAt 160 (.pointer (some ⟨6, 0, none⟩)) t_4) w fun t_5 w =>
  ldv prog (Instr.loadAt 5 t_5) w fun t_6 w =>
  pvv prog (convert 5 3 t_6) w fun t_7 w =>
  K t_7 w
theorem B110_eq (x_p0 : Value) (w : World) (K : Value → World → Prop) : denFn prog Tryd.f110 T110 [x_p0] w K = B110 x_p0 w K := by kernel_rfl
theorem c110 {x_p0 : Value} {w : World} {K : Value → World → Prop} (h : B110 x_p0 w K) : Calls prog 110 #[x_p0] w (Ret K) :=
  denFn_calls Tryd.func110 T110_ok (Eq.mpr (B110_eq x_p0 w K) h)

-- 33 (*holdfast/holdfastref14.Chain).Events
def T33 : Ann := (.seq .none (.seq .none (.meet 4088 [3] (.seq .none (.seq .none .none)) (.seq .none .none))))
theorem T33_ok : chkFn prog Tryd.f33 T33 = true := by kernel_rfl
def B33 (c_p0 : Value) (w : World) (K : Value → World → Prop) : Prop :=
  jn (fun σ w => pop σ fun out_0 σ => fin σ <|
    K out_0 w) fun k_1 =>
  pvv prog (oEq .neq 25 (.tmp 4) (.const (.pointer none)) c_p0 (.pointer none)) w fun t_2 w =>
  cd t_2 (
    pv prog (oNil c_p0) w fun t_3 w =>
    pvv prog (Instr.fieldAt 61 t_3 6) w fun t_4 w =>
    ldv prog (Instr.loadAt 31 t_4) w fun t_5 w =>
    ef prog (oBi .append #[31, 31] 31 #[false, false] #[(.slice none 0 0), t_5]) w fun t_6 w =>
    k_1 [t_6] w) <|
  k_1 [(.slice none 0 0)] w
theorem B33_eq (c_p0 : Value) (w : World) (K : Value → World → Prop) : denFn prog Tryd.f33 T33 [c_p0] w K = B33 c_p0 w K := by kernel_rfl
theorem c33 {c_p0 : Value} {w : World} {K : Value → World → Prop} (h : B33 c_p0 w K) : Calls prog 33 #[c_p0] w (Ret K) :=
  denFn_calls Tryd.func33 T33_ok (Eq.mpr (B33_eq c_p0 w K) h)

-- 46 holdfast/hash.Chain
def T46 : Ann := (.seq .none (.seq .none .none))
theorem T46_ok : chkFn prog Tryd.f46 T46 = true := by kernel_rfl
def B46 (h_p0 b_p1 : Value) (w : World) (K : Value → World → Prop) : Prop :=
  efv prog (Instr.box 36 h_p0) w fun h_0 w =>
  efv prog (Instr.alloc 36 true (.tuple #[])) w fun t_1 w =>
  pvv prog (Instr.sliceAt 36 h_0 none none none) w fun t_2 w =>
  ef prog (oBi .append #[72, 72] 72 #[false, false] #[t_2, b_p1]) w fun t_3 w =>
  Calls prog 57 #[t_3] w (Ret fun t_4 w =>
  efu prog (Instr.storeAt 36 t_1 t_4) w fun u_5 w =>
  ∃ r_6, (do loadVar 36 (← asAddr t_1)).run prog w = .ok r_6 w ∧ K r_6 w)
theorem B46_eq (h_p0 b_p1 : Value) (w : World) (K : Value → World → Prop) : denFn prog Tryd.f46 T46 [h_p0, b_p1] w K = B46 h_p0 b_p1 w K := by kernel_rfl
theorem c46 {h_p0 b_p1 : Value} {w : World} {K : Value → World → Prop} (h : B46 h_p0 b_p1 w K) : Calls prog 46 #[h_p0, b_p1] w (Ret K) :=
  denFn_calls Tryd.func46 T46_ok (Eq.mpr (B46_eq h_p0 b_p1 w K) h)

-- 85 internal/strconv.numDigits
def T85 : Ann := (.seq .none (.seq .none (.seq .none .none)))
theorem T85_ok : chkFn prog Tryd.f85 T85 = true := by kernel_rfl
def B85 (d_p0 : Value) (w : World) (K : Value → World → Prop) : Prop :=
  Calls prog 99 #[d_p0] w (Ret fun t_0 w =>
  Calls prog 98 #[t_0] w (Ret fun t_1 w =>
  pvv prog (Instr.indexAt 139 (.pointer (some ⟨0, 0, none⟩)) t_1) w fun t_2 w =>
  ldv prog (Instr.loadAt 96 t_2) w fun t_3 w =>
  pvv prog (binOp .geq 96 d_p0 t_3) w fun t_4 w =>
  Calls prog 100 #[t_4] w (Ret fun t_5 w =>
  pvv prog (binOp .add 3 t_1 t_5) w fun t_6 w =>
  K t_6 w)))
theorem B85_eq (d_p0 : Value) (w : World) (K : Value → World → Prop) : denFn prog Tryd.f85 T85 [d_p0] w K = B85 d_p0 w K := by kernel_rfl
theorem c85 {d_p0 : Value} {w : World} {K : Value → World → Prop} (h : B85 d_p0 w K) : Calls prog 85 #[d_p0] w (Ret K) :=
  denFn_calls Tryd.func85 T85_ok (Eq.mpr (B85_eq d_p0 w K) h)

-- 69 bytes.Clone
def T69 : Ann := (.seq .none (.seq (.seq .none (.seq (.seq .none .none) .none)) (.seq .none .none)))
theorem T69_ok : chkFn prog Tryd.f69 T69 = true := by kernel_rfl
def B69 (b_p0 : Value) (w : World) (K : Value → World → Prop) : Prop :=
  pvv prog (oEq .eql 72 (.tmp 3) (.const (.slice none 0 0)) b_p0 (.slice none 0 0)) w fun t_0 w =>
  cd t_0 (
    K (.slice none 0 0) w) <|
  efv prog (Instr.buildSlice 72 0 #[]) w fun t_1 w =>
  ef prog (oBi .append #[72, 72] 72 #[false, false] #[t_1, b_p0]) w fun t_2 w =>
  K t_2 w
theorem B69_eq (b_p0 : Value) (w : World) (K : Value → World → Prop) : denFn prog Tryd.f69 T69 [b_p0] w K = B69 b_p0 w K := by kernel_rfl
theorem c69 {b_p0 : Value} {w : World} {K : Value → World → Prop} (h : B69 b_p0 w K) : Calls prog 69 #[b_p0] w (Ret K) :=
  denFn_calls Tryd.func69 T69_ok (Eq.mpr (B69_eq b_p0 w K) h)

-- 107 errors.New
def T107 : Ann := (.seq .none (.seq .none .none))
theorem T107_ok : chkFn prog Tryd.f107 T107 = true := by kernel_rfl
def B107 (text_p0 : Value) (w : World) (K : Value → World → Prop) : Prop :=
  pvv prog (Instr.build 159 #[(0, text_p0)]) w fun t_0 w =>
  efv prog (Instr.box 159 t_0) w fun t_1 w =>
  pvv prog (Instr.makeInterface 157 t_1) w fun t_2 w =>
  K t_2 w
theorem B107_eq (text_p0 : Value) (w : World) (K : Value → World → Prop) : denFn prog Tryd.f107 T107 [text_p0] w K = B107 text_p0 w K := by kernel_rfl
theorem c107 {text_p0 : Value} {w : World} {K : Value → World → Prop} (h : B107 text_p0 w K) : Calls prog 107 #[text_p0] w (Ret K) :=
  denFn_calls Tryd.func107 T107_ok (Eq.mpr (B107_eq text_p0 w K) h)

-- 39 holdfast/audit.number
def T39 : Ann := (.seq .none (.seq .none (.seq .none .none)))
theorem T39_ok : chkFn prog Tryd.f39 T39 = true := by kernel_rfl
def B39 (n_p0 : Value) (w : World) (K : Value → World → Prop) : Prop :=
  Calls prog 52 #[n_p0] w (Ret fun t_0 w =>
  pvv prog (Instr.extract t_0 0) w fun t_1 w =>
  pvv prog (Instr.extract t_0 1) w fun t_2 w =>
  K t_1 w)
theorem B39_eq (n_p0 : Value) (w : World) (K : Value → World → Prop) : denFn prog Tryd.f39 T39 [n_p0] w K = B39 n_p0 w K := by kernel_rfl
theorem c39 {n_p0 : Value} {w : World} {K : Value → World → Prop} (h : B39 n_p0 w K) : Calls prog 39 #[n_p0] w (Ret K) :=
  denFn_calls Tryd.func39 T39_ok (Eq.mpr (B39_eq n_p0 w K) h)

-- 60 strings.TrimPrefix
def T60 : Ann := (.seq .none (.seq .none .none))
theorem T60_ok : chkFn prog Tryd.f60 T60 = true := by kernel_rfl
def B60 (s_p0 prefix_p1 : Value) (w : World) (K : Value → World → Prop) : Prop :=
  Calls prog 71 #[s_p0, prefix_p1] w (Ret fun t_0 w =>
  K t_0 w)
theorem B60_eq (s_p0 prefix_p1 : Value) (w : World) (K : Value → World → Prop) : denFn prog Tryd.f60 T60 [s_p0, prefix_p1] w K = B60 s_p0 prefix_p1 w K := by kernel_rfl
theorem c60 {s_p0 prefix_p1 : Value} {w : World} {K : Value → World → Prop} (h : B60 s_p0 prefix_p1 w K) : Calls prog 60 #[s_p0, prefix_p1] w (Ret K) :=
  denFn_calls Tryd.func60 T60_ok (Eq.mpr (B60_eq s_p0 prefix_p1 w K) h)

-- 98 internal/strconv.log10Pow2
def T98 : Ann := (.seq .none (.seq .none .none))
theorem T98_ok : chkFn prog Tryd.f98 T98 = true := by kernel_rfl
def B98 (x_p0 : Value) (w : World) (K : Value → World → Prop) : Prop :=
  pvv prog (binOp .mul 3 x_p0 (.int .i64 78913)) w fun t_0 w =>
  pvv prog (binOp .shr 3 t_0 (.int .u64 18)) w fun t_1 w =>
  K t_1 w
theorem B98_eq (x_p0 : Value) (w : World) (K : Value → World → Prop) : denFn prog Tryd.f98 T98 [x_p0] w K = B98 x_p0 w K := by kernel_rfl
theorem c98 {x_p0 : Value} {w : World} {K : Value → World → Prop} (h : B98 x_p0 w K) : Calls prog 98 #[x_p0] w (Ret K) :=
  denFn_calls Tryd.func98 T98_ok (Eq.mpr (B98_eq x_p0 w K) h)

-- 115 internal/strconv.Itoa
def T115 : Ann := (.seq .none (.seq .none .none))
theorem T115_ok : chkFn prog Tryd.f115 T115 = true := by kernel_rfl
def B115 (i_p0 : Value) (w : World) (K : Value → World → Prop) : Prop :=
  Calls prog 72 #[i_p0, (.int .i64 10)] w (Ret fun t_0 w =>
  K t_0 w)
theorem B115_eq (i_p0 : Value) (w : World) (K : Value → World → Prop) : denFn prog Tryd.f115 T115 [i_p0] w K = B115 i_p0 w K := by kernel_rfl
theorem c115 {i_p0 : Value} {w : World} {K : Value → World → Prop} (h : B115 i_p0 w K) : Calls prog 115 #[i_p0] w (Ret K) :=
  denFn_calls Tryd.func115 T115_ok (Eq.mpr (B115_eq i_p0 w K) h)

-- 108 strconv.Itoa
def T108 : Ann := (.seq .none (.seq .none .none))
theorem T108_ok : chkFn prog Tryd.f108 T108 = true := by kernel_rfl
def B108 (i_p0 : Value) (w : World) (K : Value → World → Prop) : Prop :=
  Calls prog 115 #[i_p0] w (Ret fun t_0 w =>
  K t_0 w)
theorem B108_eq (i_p0 : Value) (w : World) (K : Value → World → Prop) : denFn prog Tryd.f108 T108 [i_p0] w K = B108 i_p0 w K := by kernel_rfl
theorem c108 {i_p0 : Value} {w : World} {K : Value → World → Prop} (h : B108 i_p0 w K) : Calls prog 108 #[i_p0] w (Ret K) :=
  denFn_calls Tryd.func108 T108_ok (Eq.mpr (B108_eq i_p0 w K) h)


end Go.Proofs.YtjeiojibnmfibaaDoor
