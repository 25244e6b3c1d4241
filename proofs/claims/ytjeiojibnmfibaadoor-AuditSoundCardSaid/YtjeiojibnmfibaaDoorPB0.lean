import Derived.Test.YtjeiojibnmfibaaDoorPI
set_option linter.all false
set_option maxRecDepth 100000
namespace Go.Proofs.YtjeiojibnmfibaaDoor
open Go Hold
-- 55 holdfast/holdfastref07.Sum
def T55 : Ann := (.seq .none (.seq .none (.seq .none (.seq .none (.seq .none (.seq (.block (.loop 545460846624 [5] (.seq (.seq .none (.seq .none .none)) (.block .none)))) (.seq .none (.seq (.seq .none (.block (.loop 72048797944905888 [5, 7] (.seq (.seq .none (.seq .none .none)) (.seq (.block .none) .none))))) (.seq (.seq .none (.block (.loop 1897137590064188545819787018382342682267975428761855001222473056313591121991171840 [8] (.seq (.seq .none (.seq .none .none)) (.seq (.block (.seq .none (.seq (.seq .none (.block (.loop 1237940030062008238044351488 [10] (.seq (.seq .none (.seq .none .none)) (.seq (.block (.seq .none (.block (.loop 1237939891711427685222713344 [11] (.seq (.seq .none (.seq .none .none)) (.seq (.block (.draw [.op 0 .pure, .op 1 .pure, .op 2 .pure, .op 3 .pure, .op 4 .pure, .op 7 .pure, .op 8 .pure, .op 9 .pure, .op 10 .pure, .op 11 .pure, .op 12 .pure, .op 13 .pure, .op 14 .pure, .op 5 .load, .op 6 .pure, .op 15 .load, .op 16 .pure, .op 17 .pure, .op 18 .pure, .op 19 .eff])) .none)))))) .none))))) (.seq (.seq .none (.block (.loop 87112285931759008706584614122257763037184 [12] (.seq (.seq .none (.seq .none .none)) (.seq (.block (.seq (.draw [.op 0 .pure, .op 1 .pure, .op 2 .pure, .op 3 .pure, .op 5 .pure, .op 6 .pure, .op 7 .pure, .op 8 .pure, .op 4 .load, .op 10 .pure, .op 9 .load, .op 11 .pure]) (.draw [.op 0 .pure, .op 1 .pure, .op 2 .pure, .op 3 .pure, .op 4 .pure, .op 5 .pure, .op 7 .pure, .op 9 .pure, .op 12 .pure, .op 13 .pure, .op 16 .pure, .op 17 .pure, .op 18 .pure, .op 19 .pure, .op 22 .pure, .op 24 .pure, .op 27 .pure, .op 28 .pure, .op 6 .load, .op 20 .load, .op 8 .eff, .op 10 .eff, .op 11 .pure, .op 14 .pure, .op 15 .pure, .op 21 .pure, .op 23 .eff, .op 25 .eff, .op 26 .pure, .op 29 .pure, .op 30 .pure, .op 31 .pure, .op 32 .eff]))) .none))))) (.seq .none (.seq .none (.seq (.seq .none (.block (.loop 115792089237316195423570985008687907156371697211558590866466387987651836739584 [15, 16] (.seq (.seq .none (.seq .none .none)) (.seq (.block (.seq (.draw [.op 0 .pure, .op 1 .pure, .op 4 .pure, .op 5 .pure, .op 9 .pure, .op 10 .pure, .op 2 .load, .op 6 .load, .op 11 .load, .op 3 .eff, .op 7 .eff, .op 8 .pure, .op 12 .eff, .op 13 .pure, .op 14 .pure]) (.seq (.draw [.op 0 .pure, .op 1 .pure, .op 3 .pure, .op 4 .pure, .op 7 .pure, .op 8 .pure, .op 11 .pure, .op 12 .pure, .op 2 .load, .op 5 .load, .op 6 .pure, .op 9 .load, .op 10 .pure, .op 13 .load, .op 14 .pure, .op 15 .pure, .op 16 .pure]) (.seq (.draw [.op 0 .pure, .op 1 .pure, .op 3 .pure, .op 5 .pure, .op 7 .pure, .op 8 .pure, .op 9 .pure, .op 12 .pure, .op 13 .pure, .op 14 .pure, .op 2 .load, .op 4 .pure, .op 6 .pure, .op 10 .load, .op 11 .pure, .op 15 .load, .op 16 .pure, .op 17 .pure]) (.seq (.draw [.op 0 .pure, .op 1 .pure, .op 4 .pure, .op 5 .pure, .op 9 .pure, .op 10 .pure, .op 2 .load, .op 6 .load, .op 11 .load, .op 3 .eff, .op 7 .eff, .op 8 .pure, .op 12 .eff, .op 13 .pure, .op 14 .pure]) (.seq (.draw [.op 0 .pure, .op 1 .pure, .op 3 .pure, .op 4 .pure, .op 7 .pure, .op 8 .pure, .op 10 .pure, .op 11 .pure, .op 15 .pure, .op 16 .pure, .op 18 .pure, .op 19 .pure, .op 2 .load, .op 5 .load, .op 6 .pure, .op 9 .load, .op 12 .load, .op 13 .pure, .op 14 .pure, .op 17 .load, .op 20 .load, .op 21 .pure, .op 22 .pure, .op 23 .pure]) (.draw [.op 0 .pure, .op 1 .pure, .op 2 .pure, .op 3 .pure, .op 4 .pure, .op 5 .pure, .op 6 .pure, .op 8 .pure, .op 9 .pure, .op 11 .pure, .op 12 .pure, .op 14 .pure, .op 15 .pure, .op 17 .pure, .op 19 .pure, .op 20 .pure, .op 22 .pure, .op 23 .pure, .op 25 .pure, .op 26 .pure, .op 7 .load, .op 10 .load, .op 13 .load, .op 16 .load, .op 18 .pure, .op 21 .load, .op 24 .load, .op 27 .load, .op 28 .eff, .op 29 .pure]))))))) .none))))) (.seq .none (.block (.loop 1897021797974951229624363447397333994360122158777189360658433598801640802895265792 [22] (.seq (.seq .none (.seq .none .none)) (.seq (.block (.draw [.op 0 .pure, .op 1 .pure, .op 2 .pure, .op 4 .pure, .op 5 .pure, .op 6 .pure, .op 3 .load, .op 7 .load, .op 8 .pure, .op 9 .pure, .op 10 .eff])) .none)))))))))))) .none))))) (.seq .none (.seq (.seq .none (.block (.loop 248659721067303256889145304286392037707545807423245096865230765973523362857550683832320 [24] (.seq (.seq .none (.seq .none .none)) (.seq (.block .none) .none))))) (.seq .none .none))))))))))))
theorem T55_ok : chkFn prog Tryd.f55 T55 = true := by kernel_rfl
def B55 (b_p0 : Value) (w : World) (K : Value → World → Prop) : Prop :=
  efv prog (Instr.alloc 36 true (.tuple #[])) w fun t_0 w =>
  efv prog (Instr.buildSlice 102 8 #[(0, (.int .u32 1779033703)), (1, (.int .u32 3144134277)), (2, (.int .u32 1013904242)), (3, (.int .u32 2773480762)), (4, (.int .u32 1359893119)), (5, (.int .u32 2600822924)), (6, (.int .u32 528734635)), (7, (.int .u32 1541459225))]) w fun t_1 w =>
  Calls prog 65 #[] w (Ret fun t_2 w =>
  ef prog (oBi .append #[72, 72] 72 #[false, false] #[(.slice none 0 0), b_p0]) w fun t_3 w =>
  efv prog (Instr.buildSlice 72 1 #[(0, (.int .u8 128))]) w fun t_4 w =>
  ef prog (oBi .append #[72, 72] 72 #[false, false] #[t_3, t_4]) w fun t_5 w =>
  lp (fun σ w again_7 => pop σ fun m_6 σ => fin σ <|
    pv prog (oBi .len #[72] 3 #[false] #[m_6]) w fun t_8 w =>
    pvv prog (binOp .rem 3 t_8 (.int .i64 64)) w fun t_9 w =>
    pvv prog (oEq .neq 3 (.tmp 34) (.const (.int .i64 56)) t_9 (.int .i64 56)) w fun t_10 w =>
    cd t_10 (
      efv prog (Instr.buildSlice 72 1 #[(0, (.int .u8 0))]) w fun t_11 w =>
      ef prog (oBi .append #[72, 72] 72 #[false, false] #[m_6, t_11]) w fun t_12 w =>
      again_7 [t_12] w) <|
    pv prog (oBi .len #[72] 3 #[false] #[b_p0]) w fun t_13 w =>
    pvv prog (convert 3 96 t_13) w fun t_14 w =>
    pvv prog (binOp .mul 96 t_14 (.int .u64 8)) w fun t_15 w =>
    lp (fun σ w again_18 => pop σ fun m_16 σ => pop σ fun i_17 σ => fin σ <|
      pvv prog (binOp .lss 3 i_17 (.int .i64 8)) w fun t_19 w =>
      cd t_19 (
        pvv prog (binOp .mul 3 (.int .i64 8) i_17) w fun t_20 w =>
        pvv prog (binOp .sub 3 (.int .i64 56) t_20) w fun t_21 w =>
        pvv prog (binOp .shr 96 t_15 t_21) w fun t_22 w =>
        pvv prog (convert 96 5 t_22) w fun t_23 w =>
        efv prog (Instr.buildSlice 72 1 #[(0, t_23)]) w fun t_24 w =>
        ef prog (oBi .append #[72, 72] 72 #[false, false] #[m_16, t_24]) w fun t_25 w =>
        pvv prog (binOp .add 3 i_17 (.int .i64 1)) w fun t_26 w =>
        again_18 [t_25, t_26] w) <|
      lp (fun σ w again_28 => pop σ fun at_27 σ => fin σ <|
        pv prog (oBi .len #[72] 3 #[false] #[m_16]) w fun t_29 w =>
        pvv prog (binOp .lss 3 at_27 t_29) w fun t_30 w =>
        cd t_30 (
          efv prog (Instr.makeSlice 102 (.int .i64 64) (.int .i64 64)) w fun t_31 w =>
          lp (fun σ w again_33 => pop σ fun i_32 σ => fin σ <|
            pvv prog (binOp .lss 3 i_32 (.int .i64 16)) w fun t_34 w =>
            cd t_34 (
              lp (fun σ w again_36 => pop σ fun j_35 σ => fin σ <|
                pvv prog (binOp .lss 3 j_35 (.int .i64 4)) w fun t_37 w =>
                cd t_37 (
                  dr w fun w =>
                  pvv prog (Instr.indexAt 102 t_31 i_32) w fun t_38 w =>
                  pvv prog (binOp .mul 3 (.int .i64 4) i_32) w fun t_39 w =>
                  pvv prog (binOp .add 3 at_27 t_39) w fun t_40 w =>
                  pvv prog (binOp .add 3 t_40 j_35) w fun t_41 w =>
                  pvv prog (Instr.indexAt 72 m_16 t_41) w fun t_42 w =>
                  bindS (vN (Instr.loadAt 101 t_38)) fun m_44 => ldv prog (Instr.loadAt 101 t_38) w fun t_43 w =>
                  pvv prog (binOp .shl 101 t_43 (.int .u64 8)) w fun t_45 w =>
                  bindS (vN (Instr.loadAt 5 t_42)) fun m_47 => ldv prog (Instr.loadAt 5 t_42) w fun t_46 w =>
                  pvv prog (convert 5 101 t_46) w fun t_48 w =>
                  pvv prog (binOp .or 101 t_45 t_48) w fun t_49 w =>
                  pvv prog (Instr.indexAt 102 t_31 i_32) w fun t_50 w =>
                  efu prog (Instr.storeAt 101 t_50 t_49) w fun u_51 w =>
                  pvv prog (binOp .add 3 j_35 (.int .i64 1)) w fun t_52 w =>
                  again_36 [t_52] w) <|
                pvv prog (binOp .add 3 i_32 (.int .i64 1)) w fun t_54 w =>
                again_33 [t_54] w) [(.int .i64 0)] w) <|
            lp (fun σ w again_56 => pop σ fun i_55 σ => fin σ <|
              pvv prog (binOp .lss 3 i_55 (.int .i64 64)) w fun t_57 w =>
              cd t_57 (
                dr w fun w =>
                pvv prog (binOp .sub 3 i_55 (.int .i64 15)) w fun t_58 w =>
                pvv prog (Instr.indexAt 102 t_31 t_58) w fun t_59 w =>
                pvv prog (binOp .sub 3 i_55 (.int .i64 2)) w fun t_60 w =>
                pvv prog (Instr.indexAt 102 t_31 t_60) w fun t_61 w =>
                bindS (vN (Instr.loadAt 101 t_59)) fun m_63 => ldv prog (Instr.loadAt 101 t_59) w fun t_62 w =>
                bindS (vN (Instr.loadAt 101 t_61)) fun m_65 => ldv prog (Instr.loadAt 101 t_61) w fun t_64 w =>
                dr w fun w =>
                pvv prog (binOp .sub 3 i_55 (.int .i64 16)) w fun t_66 w =>
                pvv prog (Instr.indexAt 102 t_31 t_66) w fun t_67 w =>
                pvv prog (binOp .shr 101 t_62 (.int .u64 3)) w fun t_68 w =>
                pvv prog (binOp .sub 3 i_55 (.int .i64 7)) w fun t_69 w =>
                pvv prog (Instr.indexAt 102 t_31 t_69) w fun t_70 w =>
                pvv prog (binOp .shr 101 t_64 (.int .u64 10)) w fun t_71 w =>
                bindS (vN (Instr.loadAt 101 t_67)) fun m_73 => ldv prog (Instr.loadAt 101 t_67) w fun t_72 w =>
                bindS (vN (Instr.loadAt 101 t_70)) fun m_75 => ldv prog (Instr.loadAt 101 t_70) w fun t_74 w =>
                Calls prog 66 #[t_62, (.int .i64 7)] w (Ret fun t_76 w => stay prog none m_75 t_74 w <| stay prog none m_73 t_72 w <| 
                Calls prog 66 #[t_62, (.int .i64 18)] w (Ret fun t_77 w => stay prog none m_75 t_74 w <| stay prog none m_73 t_72 w <| 
                pvv prog (binOp .xor 101 t_76 t_77) w fun t_78 w =>
                pvv prog (binOp .xor 101 t_78 t_68) w fun t_79 w =>
                pvv prog (binOp .add 101 t_72 t_79) w fun t_80 w =>
                pvv prog (binOp .add 101 t_80 t_74) w fun t_81 w =>
                Calls prog 66 #[t_64, (.int .i64 17)] w (Ret fun t_82 w => stay prog none m_75 t_74 w <| stay prog none m_73 t_72 w <| 
                Calls prog 66 #[t_64, (.int .i64 19)] w (Ret fun t_83 w => stay prog none m_75 t_74 w <| stay prog none m_73 t_72 w <| 
                pvv prog (binOp .xor 101 t_82 t_83) w fun t_84 w =>
                pvv prog (binOp .xor 101 t_84 t_71) w fun t_85 w =>
                pvv prog (binOp .add 101 t_81 t_85) w fun t_86 w =>
                pvv prog (Instr.indexAt 102 t_31 i_55) w fun t_87 w =>
                efu prog (Instr.storeAt 101 t_87 t_86) w fun u_88 w =>
                pvv prog (binOp .add 3 i_55 (.int .i64 1)) w fun t_89 w =>
                again_56 [t_89] w))))) <|
              ef prog (oBi .append #[102, 102] 102 #[false, false] #[(.slice none 0 0), t_1]) w fun t_95 w =>
              lp (fun σ w again_98 => pop σ fun v_96 σ => pop σ fun i_97 σ => fin σ <|
                pvv prog (binOp .lss 3 i_97 (.int .i64 64)) w fun t_99 w =>
                cd t_99 (
                  dr w fun w =>
                  pvv prog (Instr.indexAt 102 v_96 (.int .i64 4)) w fun t_100 w =>
                  pvv prog (Instr.indexAt 102 v_96 (.int .i64 4)) w fun t_101 w =>
                  pvv prog (Instr.indexAt 102 v_96 (.int .i64 4)) w fun t_102 w =>
                  bindS (vN (Instr.loadAt 101 t_100)) fun m_104 => ldv prog (Instr.loadAt 101 t_100) w fun t_103 w =>
                  bindS (vN (Instr.loadAt 101 t_101)) fun m_106 => ldv prog (Instr.loadAt 101 t_101) w fun t_105 w =>
                  bindS (vN (Instr.loadAt 101 t_102)) fun m_108 => ldv prog (Instr.loadAt 101 t_102) w fun t_107 w =>
                  Calls prog 66 #[t_103, (.int .i64 6)] w (Ret fun t_109 w => stay prog none m_108 t_107 w <| stay prog none m_106 t_105 w <| 
                  Calls prog 66 #[t_105, (.int .i64 11)] w (Ret fun t_110 w => stay prog none m_108 t_107 w <| stay prog none m_104 t_103 w <| 
                  pvv prog (binOp .xor 101 t_109 t_110) w fun t_111 w =>
                  Calls prog 66 #[t_107, (.int .i64 25)] w (Ret fun t_112 w => stay prog none m_106 t_105 w <| stay prog none m_104 t_103 w <| 
                  pvv prog (binOp .xor 101 t_111 t_112) w fun t_113 w =>
                  dr w fun w =>
                  pvv prog (Instr.indexAt 102 v_96 (.int .i64 4)) w fun t_114 w =>
                  pvv prog (Instr.indexAt 102 v_96 (.int .i64 5)) w fun t_115 w =>
                  pvv prog (Instr.indexAt 102 v_96 (.int .i64 4)) w fun t_116 w =>
                  pvv prog (Instr.indexAt 102 v_96 (.int .i64 6)) w fun t_117 w =>
                  bindS (vN (Instr.loadAt 101 t_114)) fun m_119 => ldv prog (Instr.loadAt 101 t_114) w fun t_118 w =>
                  bindS (vN (Instr.loadAt 101 t_115)) fun m_121 => ldv prog (Instr.loadAt 101 t_115) w fun t_120 w =>
                  pvv prog (binOp .and 101 t_118 t_120) w fun t_122 w =>
                  bindS (vN (Instr.loadAt 101 t_116)) fun m_124 => ldv prog (Instr.loadAt 101 t_116) w fun t_123 w =>
                  pvv prog (Op.unary .xor t_123) w fun t_125 w =>
                  bindS (vN (Instr.loadAt 101 t_117)) fun m_127 => ldv prog (Instr.loadAt 101 t_117) w fun t_126 w =>
                  pvv prog (binOp .and 101 t_125 t_126) w fun t_128 w =>
                  pvv prog (binOp .xor 101 t_122 t_128) w fun t_129 w =>
                  dr w fun w =>
                  pvv prog (Instr.indexAt 102 v_96 (.int .i64 7)) w fun t_130 w =>
                  pvv prog (Instr.indexAt 102 t_2 i_97) w fun t_131 w =>
                  pvv prog (Instr.indexAt 102 t_31 i_97) w fun t_132 w =>
                  bindS (vN (Instr.loadAt 101 t_130)) fun m_134 => ldv prog (Instr.loadAt 101 t_130) w fun t_133 w =>
                  pvv prog (binOp .add 101 t_133 t_113) w fun t_135 w =>
                  pvv prog (binOp .add 101 t_135 t_129) w fun t_136 w =>
                  bindS (vN (Instr.loadAt 101 t_131)) fun m_138 => ldv prog (Instr.loadAt 101 t_131) w fun t_137 w =>
                  pvv prog (binOp .add 101 t_136 t_137) w fun t_139 w =>
                  bindS (vN (Instr.loadAt 101 t_132)) fun m_141 => ldv prog (Instr.loadAt 101 t_132) w fun t_140 w =>
                  pvv prog (binOp .add 101 t_139 t_140) w fun t_142 w =>
                  dr w fun w =>
                  pvv prog (Instr.indexAt 102 v_96 (.int .i64 0)) w fun t_143 w =>
                  pvv prog (Instr.indexAt 102 v_96 (.int .i64 0)) w fun t_144 w =>
                  pvv prog (Instr.indexAt 102 v_96 (.int .i64 0)) w fun t_145 w =>
                  bindS (vN (Instr.loadAt 101 t_143)) fun m_147 => ldv prog (Instr.loadAt 101 t_143) w fun t_146 w =>
                  bindS (vN (Instr.loadAt 101 t_144)) fun m_149 => ldv prog (Instr.loadAt 101 t_144) w fun t_148 w =>
                  bindS (vN (Instr.loadAt 101 t_145)) fun m_151 => ldv prog (Instr.loadAt 101 t_145) w fun t_150 w =>
                  Calls prog 66 #[t_146, (.int .i64 2)] w (Ret fun t_152 w => stay prog none m_151 t_150 w <| stay prog none m_149 t_148 w <| 
                  Calls prog 66 #[t_148, (.int .i64 13)] w (Ret fun t_153 w => stay prog none m_151 t_150 w <| stay prog none m_147 t_146 w <| 
                  pvv prog (binOp .xor 101 t_152 t_153) w fun t_154 w =>
                  Calls prog 66 #[t_150, (.int .i64 22)] w (Ret fun t_155 w => stay prog none m_149 t_148 w <| stay prog none m_147 t_146 w <| 
                  pvv prog (binOp .xor 101 t_154 t_155) w fun t_156 w =>
                  dr w fun w =>
                  pvv prog (Instr.indexAt 102 v_96 (.int .i64 0)) w fun t_157 w =>
                  pvv prog (Instr.indexAt 102 v_96 (.int .i64 1)) w fun t_158 w =>
                  pvv prog (Instr.indexAt 102 v_96 (.int .i64 0)) w fun t_159 w =>
                  pvv prog (Instr.indexAt 102 v_96 (.int .i64 2)) w fun t_160 w =>
                  pvv prog (Instr.indexAt 102 v_96 (.int .i64 1)) w fun t_161 w =>
                  pvv prog (Instr.indexAt 102 v_96 (.int .i64 2)) w fun t_162 w =>
                  bindS (vN (Instr.loadAt 101 t_157)) fun m_164 => ldv prog (Instr.loadAt 101 t_157) w fun t_163 w =>
                  bindS (vN (Instr.loadAt 101 t_158)) fun m_166 => ldv prog (Instr.loadAt 101 t_158) w fun t_165 w =>
                  pvv prog (binOp .and 101 t_163 t_165) w fun t_167 w =>
                  bindS (vN (Instr.loadAt 101 t_159)) fun m_169 => ldv prog (Instr.loadAt 101 t_159) w fun t_168 w =>
                  bindS (vN (Instr.loadAt 101 t_160)) fun m_171 => ldv prog (Instr.loadAt 101 t_160) w fun t_170 w =>
                  pvv prog (binOp .and 101 t_168 t_170) w fun t_172 w =>
                  pvv prog (binOp .xor 101 t_167 t_172) w fun t_173 w =>
                  bindS (vN (Instr.loadAt 101 t_161)) fun m_175 => ldv prog (Instr.loadAt 101 t_161) w fun t_174 w =>
                  bindS (vN (Instr.loadAt 101 t_162)) fun m_177 => ldv prog (Instr.loadAt 101 t_162) w fun t_176 w =>
                  pvv prog (binOp .and 101 t_174 t_176) w fun t_178 w =>
                  pvv prog (binOp .xor 101 t_173 t_178) w fun t_179 w =>
                  dr w fun w =>
                  pvv prog (binOp .add 101 t_142 t_156) w fun t_180 w =>
                  pvv prog (binOp .add 101 t_180 t_179) w fun t_181 w =>
                  pvv prog (Instr.indexAt 102 v_96 (.int .i64 0)) w fun t_182 w =>
                  pvv prog (Instr.indexAt 102 v_96 (.int .i64 1)) w fun t_183 w =>
                  pvv prog (Instr.indexAt 102 v_96 (.int .i64 2)) w fun t_184 w =>
                  pvv prog (Instr.indexAt 102 v_96 (.int .i64 3)) w fun t_185 w =>
                  pvv prog (Instr.indexAt 102 v_96 (.int .i64 4)) w fun t_186 w =>
                  pvv prog (Instr.indexAt 102 v_96 (.int .i64 5)) w fun t_187 w =>
                  pvv prog (Instr.indexAt 102 v_96 (.int .i64 6)) w fun t_188 w =>
                  bindS (vN (Instr.loadAt 101 t_182)) fun m_190 => ldv prog (Instr.loadAt 101 t_182) w fun t_189 w =>
                  bindS (vN (Instr.loadAt 101 t_183)) fun m_192 => ldv prog (Instr.loadAt 101 t_183) w fun t_191 w =>
                  bindS (vN (Instr.loadAt 101 t_184)) fun m_194 => ldv prog (Instr.loadAt 101 t_184) w fun t_193 w =>
                  bindS (vN (Instr.loadAt 101 t_185)) fun m_196 => ldv prog (Instr.loadAt 101 t_185) w fun t_195 w =>
                  pvv prog (binOp .add 101 t_195 t_142) w fun t_197 w =>
                  bindS (vN (Instr.loadAt 101 t_186)) fun m_199 => ldv prog (Instr.loadAt 101 t_186) w fun t_198 w =>
                  bindS (vN (Instr.loadAt 101 t_187)) fun m_201 => ldv prog (Instr.loadAt 101 t_187) w fun t_200 w =>
                  bindS (vN (Instr.loadAt 101 t_188)) fun m_203 => ldv prog (Instr.loadAt 101 t_188) w fun t_202 w =>
                  efv prog (Instr.buildSlice 102 8 #[(0, t_181), (1, t_189), (2, t_191), (3, t_193), (4, t_197), (5, t_198), (6, t_200), (7, t_202)]) w fun t_204 w => stay prog none m_196 t_195 w <| 
                  pvv prog (binOp .add 3 i_97 (.int .i64 1)) w fun t_205 w =>
                  again_98 [t_204, t_205] w))))))) <|
                lp (fun σ w again_214 => pop σ fun i_213 σ => fin σ <|
                  pvv prog (binOp .lss 3 i_213 (.int .i64 8)) w fun t_215 w =>
                  cd t_215 (
                    dr w fun w =>
                    pvv prog (Instr.indexAt 102 t_1 i_213) w fun t_216 w =>
                    pvv prog (Instr.indexAt 102 v_96 i_213) w fun t_217 w =>
                    bindS (vN (Instr.loadAt 101 t_216)) fun m_219 => ldv prog (Instr.loadAt 101 t_216) w fun t_218 w =>
                    bindS (vN (Instr.loadAt 101 t_217)) fun m_221 => ldv prog (Instr.loadAt 101 t_217) w fun t_220 w =>
                    pvv prog (binOp .add 101 t_218 t_220) w fun t_222 w =>
                    pvv prog (Instr.indexAt 102 t_1 i_213) w fun t_223 w =>
                    efu prog (Instr.storeAt 101 t_223 t_222) w fun u_224 w =>
                    pvv prog (binOp .add 3 i_213 (.int .i64 1)) w fun t_225 w =>
                    again_214 [t_225] w) <|
                  pvv prog (binOp .add 3 at_27 (.int .i64 64)) w fun t_227 w =>
                  again_28 [t_227] w) [(.int .i64 0)] w) [t_95, (.int .i64 0)] w) [(.int .i64 16)] w) [(.int .i64 0)] w) <|
        efv prog (Instr.alloc 36 true (.tuple #[])) w fun out_228 w =>
        lp (fun σ w again_230 => pop σ fun i_229 σ => fin σ <|
          pvv prog (binOp .lss 3 i_229 (.int .i64 32)) w fun t_231 w =>
          cd t_231 (
            pvv prog (binOp .quo 3 i_229 (.int .i64 4)) w fun t_232 w =>
            pvv prog (Instr.indexAt 102 t_1 t_232) w fun t_233 w =>
            ldv prog (Instr.loadAt 101 t_233) w fun t_234 w =>
            pvv prog (binOp .rem 3 i_229 (.int .i64 4)) w fun t_235 w =>
            pvv prog (binOp .mul 3 (.int .i64 8) t_235) w fun t_236 w =>
            pvv prog (binOp .sub 3 (.int .i64 24) t_236) w fun t_237 w =>
            pvv prog (binOp .shr 101 t_234 t_237) w fun t_238 w =>
            pvv prog (convert 101 5 t_238) w fun t_239 w =>
            pvv prog (Instr.indexAt 36 out_228 i_229) w fun t_240 w =>
            efu prog (Instr.storeAt 5 t_240 t_239) w fun u_241 w =>
            pvv prog (binOp .add 3 i_229 (.int .i64 1)) w fun t_242 w =>
            again_230 [t_242] w) <|
          ldv prog (Instr.loadAt 36 out_228) w fun t_243 w =>
          efu prog (Instr.storeAt 36 t_0 t_243) w fun u_244 w =>
          ∃ r_245, (do loadVar 36 (← asAddr t_0)).run prog w = .ok r_245 w ∧ K r_245 w) [(.int .i64 0)] w) [(.int .i64 0)] w) [m_6, (.int .i64 0)] w) [t_5] w)
theorem B55_eq (b_p0 : Value) (w : World) (K : Value → World → Prop) : denFn prog Tryd.f55 T55 [b_p0] w K = B55 b_p0 w K := by kernel_rfl
theorem c55 {b_p0 : Value} {w : World} {K : Value → World → Prop} (h : B55 b_p0 w K) : Calls prog 55 #[b_p0] w (Ret K) :=
  denFn_calls Tryd.func55 T55_ok (Eq.mpr (B55_eq b_p0 w K) h)

-- 93 internal/strconv.underscoreOK
def T93 : Ann := (.seq .none (.seq .none (.seq .none (.meet 2097089 [0] (.seq .none (.seq .none .none)) (.seq .none (.meet 2251799811588152 [3, 4, 5] (.seq .none (.seq (.seq .none (.seq .none .none)) .none)) (.seq (.block (.loop 4951760157139269299782811676 [3, 4] (.seq (.seq .none (.seq .none .none)) (.meet 4951760156997405911520641036 [3] (.block (.seq (.seq .none (.seq (.seq .none .none) .none)) (.seq (.seq .none (.seq (.seq (.seq .none (.seq (.seq .none .none) .none)) (.seq .none .none)) .none)) (.seq (.seq .none (.seq (.seq .none .none) .none)) .none)))) .none)))) (.seq .none .none))))))))
theorem T93_ok : chkFn prog Tryd.f93 T93 = true := by kernel_rfl
def B93 (s_p0 : Value) (w : World) (K : Value → World → Prop) : Prop :=
  jn (fun σ w => pop σ fun s_0 σ => fin σ <|
    jn (fun σ w => pop σ fun saw_1 σ => pop σ fun i_2 σ => pop σ fun hex_3 σ => fin σ <|
      lp (fun σ w again_6 => pop σ fun saw_4 σ => pop σ fun i_5 σ => fin σ <|
        pv prog (oBi .len #[9] 3 #[false] #[s_0]) w fun t_7 w =>
        pvv prog (binOp .lss 3 i_5 t_7) w fun t_8 w =>
        cd t_8 (
          jn (fun σ w => pop σ fun saw_9 σ => fin σ <|
            pvv prog (binOp .add 3 i_5 (.int .i64 1)) w fun t_10 w =>
            again_6 [saw_9, t_10] w) fun k_11 =>
          pvv prog (Instr.index 9 s_0 i_5) w fun t_12 w =>
          pvv prog (binOp .leq 5 (.int .u8 48) t_12) w fun t_13 w =>
          gate (some (t_13, true)) (fun K => K s_0 w) w fun t_14 w =>
          gate (some (t_13, true)) (fun K => K i_5 w) w fun t_15 w =>
          gate (some (t_13, true)) (fun K => pvv prog (Instr.index 9 t_14 t_15) w K) w fun t_16 w =>
          gate (some (t_13, true)) (fun K => pvv prog (binOp .leq 5 t_16 (.int .u8 57)) w K) w fun t_17 w =>
          pv prog (oPick t_13 t_17 (.bool false)) w fun t_18 w =>
          gate (some (t_18, false)) (fun K => K hex_3 w) w fun t_19 w =>
          gate (some (t_18, false)) (fun K => K t_19 w) w fun t_20 w =>
          gate (some (t_20, true)) (fun K => K s_0 w) w fun t_21 w =>
          gate (some (t_20, true)) (fun K => K i_5 w) w fun t_22 w =>
          gate (some (t_20, true)) (fun K => pvv prog (Instr.index 9 t_21 t_22) w K) w fun t_23 w =>
          gate (some (t_20, true)) (fun K => Calls prog 92 #[t_23] w (Ret K)) w fun t_24 w =>
          gate (some (t_20, true)) (fun K => pvv prog (binOp .leq 5 (.int .u8 97) t_24) w K) w fun t_25 w =>
          gate (some (t_18, false)) (fun K => pv prog (oPick t_20 t_25 (.bool false)) w K) w fun t_26 w =>
          gate (some (t_18, false)) (fun K => K t_26 w) w fun t_27 w =>
          gate (some (t_27, true)) (fun K => K s_0 w) w fun t_28 w =>
          gate (some (t_27, true)) (fun K => K i_5 w) w fun t_29 w =>
          gate (some (t_27, true)) (fun K => pvv prog (Instr.index 9 t_28 t_29) w K) w fun t_30 w =>
          gate (some (t_27, true)) (fun K => Calls prog 92 #[t_30] w (Ret K)) w fun t_31 w =>
          gate (some (t_27, true)) (fun K => pvv prog (binOp .leq 5 t_31 (.int .u8 102)) w K) w fun t_32 w =>
          gate (some (t_18, false)) (fun K => pv prog (oPick t_27 t_32 (.bool false)) w K) w fun t_33 w =>
          pv prog (oPick t_18 (.bool true) t_33) w fun t_34 w =>
          cd t_34 (
            k_11 [(.int .i32 48)] w) <|
          pvv prog (Instr.index 9 s_0 i_5) w fun t_35 w =>
          pvv prog (oEq .eql 5 (.tmp 86) (.const (.int .u8 95)) t_35 (.int .u8 95)) w fun t_36 w =>
          cd t_36 (
            pvv prog (oEq .neq 21 (.tmp 88) (.const (.int .i32 48)) saw_4 (.int .i32 48)) w fun t_37 w =>
            cd t_37 (
              K (.bool false) w) <|
            k_11 [(.int .i32 95)] w) <|
          pvv prog (oEq .eql 21 (.tmp 90) (.const (.int .i32 95)) saw_4 (.int .i32 95)) w fun t_38 w =>
          cd t_38 (
            K (.bool false) w) <|
          k_11 [(.int .i32 33)] w) <|
        pvv prog (oEq .neq 21 (.tmp 92) (.const (.int .i32 95)) saw_4 (.int .i32 95)) w fun t_39 w =>
        K t_39 w) [saw_1, i_2] w) fun k_40 =>
    pv prog (oBi .len #[9] 3 #[false] #[s_0]) w fun t_41 w =>
    pvv prog (binOp .geq 3 t_41 (.int .i64 2)) w fun t_42 w =>
    gate (some (t_42, true)) (fun K => K s_0 w) w fun t_43 w =>
    gate (some (t_42, true)) (fun K => pvv prog (Instr.index 9 t_43 (.int .i64 0)) w K) w fun t_44 w =>
    gate (some (t_42, true)) (fun K => pvv prog (oEq .eql 5 (.tmp 26) (.const (.int .u8 48)) t_44 (.int .u8 48)) w K) w fun t_45 w =>
    pv prog (oPick t_42 t_45 (.bool false)) w fun t_46 w =>
    gate (some (t_46, true)) (fun K => K s_0 w) w fun t_47 w =>
    gate (some (t_46, true)) (fun K => pvv prog (Instr.index 9 t_47 (.int .i64 1)) w K) w fun t_48 w =>
    gate (some (t_46, true)) (fun K => Calls prog 92 #[t_48] w (Ret K)) w fun t_49 w =>
    gate (some (t_46, true)) (fun K => pvv prog (oEq .eql 5 (.tmp 32) (.const (.int .u8 98)) t_49 (.int .u8 98)) w K) w fun t_50 w =>
    gate (some (t_46, true)) (fun K => K t_50 w) w fun t_51 w =>
    gate (some (t_51, false)) (fun K => K s_0 w) w fun t_52 w =>
    gate (some (t_51, false)) (fun K => pvv prog (Instr.index 9 t_52 (.int .i64 1)) w K) w fun t_53 w =>
    gate (some (t_51, false)) (fun K => Calls prog 92 #[t_53] w (Ret K)) w fun t_54 w =>
    gate (some (t_51, false)) (fun K => pvv prog (oEq .eql 5 (.tmp 37) (.const (.int .u8 111)) t_54 (.int .u8 111)) w K) w fun t_55 w =>
    gate (some (t_46, true)) (fun K => pv prog (oPick t_51 (.bool true) t_55) w K) w fun t_56 w =>
    gate (some (t_46, true)) (fun K => K t_56 w) w fun t_57 w =>
    gate (some (t_57, false)) (fun K => K s_0 w) w fun t_58 w =>
    gate (some (t_57, false)) (fun K => pvv prog (Instr.index 9 t_58 (.int .i64 1)) w K) w fun t_59 w =>
    gate (some (t_57, false)) (fun K => Calls prog 92 #[t_59] w (Ret K)) w fun t_60 w =>
    gate (some (t_57, false)) (fun K => pvv prog (oEq .eql 5 (.tmp 43) (.const (.int .u8 120)) t_60 (.int .u8 120)) w K) w fun t_61 w =>
    gate (some (t_46, true)) (fun K => pv prog (oPick t_57 (.bool true) t_61) w K) w fun t_62 w =>
    pv prog (oPick t_46 t_62 (.bool false)) w fun t_63 w =>
    cd t_63 (
      pvv prog (Instr.index 9 s_0 (.int .i64 1)) w fun t_64 w =>
      Calls prog 92 #[t_64] w (Ret fun t_65 w =>
      pvv prog (oEq .eql 5 (.tmp 49) (.const (.int .u8 120)) t_65 (.int .u8 120)) w fun t_66 w =>
      k_40 [(.int .i32 48), (.int .i64 2), t_66] w)) <|
    k_40 [(.int .i32 94), (.int .i64 0), (.bool false)] w) fun k_67 =>
  pv prog (oBi .len #[9] 3 #[false] #[s_p0]) w fun t_68 w =>
  pvv prog (binOp .geq 3 t_68 (.int .i64 1)) w fun t_69 w =>
  gate (some (t_69, true)) (fun K => K s_p0 w) w fun t_70 w =>
  gate (some (t_69, true)) (fun K => pvv prog (Instr.index 9 t_70 (.int .i64 0)) w K) w fun t_71 w =>
  gate (some (t_69, true)) (fun K => pvv prog (oEq .eql 5 (.tmp 11) (.const (.int .u8 45)) t_71 (.int .u8 45)) w K) w fun t_72 w =>
  gate (some (t_69, true)) (fun K => K t_72 w) w fun t_73 w =>
  gate (some (t_73, false)) (fun K => K s_p0 w) w fun t_74 w =>
  gate (some (t_73, false)) (fun K => pvv prog (Instr.index 9 t_74 (.int .i64 0)) w K) w fun t_75 w =>
  gate (some (t_73, false)) (fun K => pvv prog (oEq .eql 5 (.tmp 15) (.const (.int .u8 43)) t_75 (.int .u8 43)) w K) w fun t_76 w =>
  gate (some (t_69, true)) (fun K => pv prog (oPick t_73 (.bool true) t_76) w K) w fun t_77 w =>
  pv prog (oPick t_69 t_77 (.bool false)) w fun t_78 w =>
  cd t_78 (
    pvv prog (Instr.sliceAt 9 s_p0 (some (.int .i64 1)) none none) w fun t_79 w =>
    k_67 [t_79] w) <|
  k_67 [s_p0] w
theorem B93_eq (s_p0 : Value) (w : World) (K : Value → World → Prop) : denFn prog Tryd.f93 T93 [s_p0] w K = B93 s_p0 w K := by kernel_rfl
theorem c93 {s_p0 : Value} {w : World} {K : Value → World → Prop} (h : B93 s_p0 w K) : Calls prog 93 #[s_p0] w (Ret K) :=
  denFn_calls Tryd.func93 T93_ok (Eq.mpr (B93_eq s_p0 w K) h)

-- 16 (*holdfast/audit.Chain).Add
def T16 : Ann := (.seq .none (.seq (.block (.seq .none (.seq (.seq .none .none) (.seq .none (.seq (.seq .none .none) (.seq .none (.seq (.seq .none .none) (.seq .none (.seq (.seq .none .none) (.seq .none (.seq (.seq .none .none) .none))))))))))) (.seq .none (.seq (.draw [.op 0 .pure, .op 1 .pure, .op 2 .pure, .op 3 .pure, .op 5 .pure, .op 6 .pure, .op 7 .pure, .op 10 .pure, .op 11 .pure, .op 12 .pure, .op 4 .load, .op 8 .load, .op 9 .pure, .op 13 .load, .op 14 .pure, .op 15 .pure, .op 16 .load, .op 17 .eff, .op 18 .eff, .op 19 .pure, .op 20 .pure, .op 21 .eff]) (.seq (.draw [.op 0 .pure, .op 1 .pure, .op 2 .pure, .op 3 .pure, .op 4 .load, .op 5 .load, .op 6 .eff, .op 7 .pure, .op 8 .pure, .op 9 .eff]) (.seq .none (.seq .none .none)))))))
theorem T16_ok : chkFn prog Tryd.f16 T16 = true := by kernel_rfl
def B16 (c_p0 at_p1 what_p2 who_p3 : Value) (w : World) (K : Value → World → Prop) : Prop :=
  efv prog (Instr.alloc 34 true (.tuple #[])) w fun t_0 w =>
  pvv prog (oEq .eql 23 (.tmp 12) (.const (.pointer none)) c_p0 (.pointer none)) w fun t_1 w =>
  cd t_1 (
    pvv prog (Instr.build 34 #[]) w fun t_2 w =>
    efu prog (Instr.storeAt 34 t_0 t_2) w fun u_3 w =>
    ∃ r_4, (do loadVar 34 (← asAddr t_0)).run prog w = .ok r_4 w ∧ K (.tuple #[r_4, (.int .i64 1)]) w) <|
  pvv prog (binOp .lss 3 at_p1 (.int .i64 0)) w fun t_5 w =>
  gate (some (t_5, false)) (fun K => K at_p1 w) w fun t_6 w =>
  gate (some (t_5, false)) (fun K => pvv prog (binOp .gtr 3 t_6 (.int .i64 1099511627776)) w K) w fun t_7 w =>
  pv prog (oPick t_5 (.bool true) t_7) w fun t_8 w =>
  cd t_8 (
    pvv prog (Instr.build 34 #[]) w fun t_9 w =>
    efu prog (Instr.storeAt 34 t_0 t_9) w fun u_10 w =>
    ∃ r_11, (do loadVar 34 (← asAddr t_0)).run prog w = .ok r_11 w ∧ K (.tuple #[r_11, (.int .i64 2)]) w) <|
  pv prog (oBi .len #[9] 3 #[false] #[what_p2]) w fun t_12 w =>
  pvv prog (binOp .gtr 3 t_12 (.int .i64 12)) w fun t_13 w =>
  gate (some (t_13, false)) (fun K => K who_p3 w) w fun t_14 w =>
  gate (some (t_13, false)) (fun K => pv prog (oBi .len #[9] 3 #[false] #[t_14]) w K) w fun t_15 w =>
  gate (some (t_13, false)) (fun K => pvv prog (binOp .gtr 3 t_15 (.int .i64 30)) w K) w fun t_16 w =>
  pv prog (oPick t_13 (.bool true) t_16) w fun t_17 w =>
  cd t_17 (
    pvv prog (Instr.build 34 #[]) w fun t_18 w =>
    efu prog (Instr.storeAt 34 t_0 t_18) w fun u_19 w =>
    ∃ r_20, (do loadVar 34 (← asAddr t_0)).run prog w = .ok r_20 w ∧ K (.tuple #[r_20, (.int .i64 6)]) w) <|
  pv prog (oNil c_p0) w fun t_21 w =>
  pvv prog (Instr.fieldAt 59 t_21 3) w fun t_22 w =>
  ldv prog (Instr.loadAt 3 t_22) w fun t_23 w =>
  pvv prog (binOp .lss 3 at_p1 t_23) w fun t_24 w =>
  cd t_24 (
    pvv prog (Instr.build 34 #[]) w fun t_25 w =>
    efu prog (Instr.storeAt 34 t_0 t_25) w fun u_26 w =>
    ∃ r_27, (do loadVar 34 (← asAddr t_0)).run prog w = .ok r_27 w ∧ K (.tuple #[r_27, (.int .i64 9)]) w) <|
  pv prog (oNil c_p0) w fun t_28 w =>
  pvv prog (Instr.fieldAt 59 t_28 4) w fun t_29 w =>
  ldv prog (Instr.loadAt 31 t_29) w fun t_30 w =>
  pv prog (oBi .len #[31] 3 #[false] #[t_30]) w fun t_31 w =>
  pvv prog (binOp .geq 3 t_31 (.int .i64 64)) w fun t_32 w =>
  cd t_32 (
    pvv prog (Instr.build 34 #[]) w fun t_33 w =>
    efu prog (Instr.storeAt 34 t_0 t_33) w fun u_34 w =>
    ∃ r_35, (do loadVar 34 (← asAddr t_0)).run prog w = .ok r_35 w ∧ K (.tuple #[r_35, (.int .i64 26)]) w) <|
  Calls prog 15 #[c_p0] w (Ret fun t_36 w =>
  pvv prog (binOp .add 3 t_36 (.int .i64 1)) w fun t_37 w =>
  pvv prog (Instr.build 34 #[(0, t_37), (1, at_p1), (2, what_p2), (3, who_p3)]) w fun t_38 w =>
  efv prog (Instr.alloc 34 true (.tuple #[])) w fun x_39 w =>
  efu prog (Instr.storeAt 34 x_39 t_38) w fun u_40 w =>
  dr w fun w =>
  pv prog (oNil c_p0) w fun t_41 w =>
  pvv prog (Instr.fieldAt 59 t_41 4) w fun t_42 w =>
  pv prog (oNil c_p0) w fun t_43 w =>
  pvv prog (Instr.fieldAt 59 t_43 4) w fun t_44 w =>
  pv prog (oNil c_p0) w fun t_45 w =>
  pvv prog (Instr.fieldAt 59 t_45 4) w fun t_46 w =>
  bindS (vN (Instr.loadAt 31 t_42)) fun m_48 => ldv prog (Instr.loadAt 31 t_42) w fun t_47 w =>
  bindS (vN (Instr.loadAt 31 t_44)) fun m_50 => ldv prog (Instr.loadAt 31 t_44) w fun t_49 w =>
  pv prog (oBi .len #[31] 3 #[false] #[t_49]) w fun t_51 w =>
  bindS (vN (Instr.loadAt 31 t_46)) fun m_53 => ldv prog (Instr.loadAt 31 t_46) w fun t_52 w =>
  pv prog (oBi .len #[31] 3 #[false] #[t_52]) w fun t_54 w =>
  pvv prog (Instr.sliceAt 31 t_47 none (some t_51) (some t_54)) w fun t_55 w =>
  bindS (vN (Instr.loadAt 34 x_39)) fun m_57 => ldv prog (Instr.loadAt 34 x_39) w fun t_56 w =>
  efv prog (Instr.buildSlice 31 1 #[(0, t_56)]) w fun t_58 w => stay prog none m_53 t_52 w <| stay prog none m_50 t_49 w <| stay prog none m_48 t_47 w <| 
  ef prog (oBi .append #[31, 31] 31 #[false, false] #[t_55, t_58]) w fun t_59 w => stay prog none m_57 t_56 w <| stay prog none m_53 t_52 w <| stay prog none m_50 t_49 w <| stay prog none m_48 t_47 w <| 
  pv prog (oNil c_p0) w fun t_60 w =>
  pvv prog (Instr.fieldAt 59 t_60 4) w fun t_61 w =>
  efu prog (Instr.storeAt 31 t_61 t_59) w fun u_62 w =>
  dr w fun w =>
  pv prog (oNil c_p0) w fun t_63 w =>
  pvv prog (Instr.fieldAt 59 t_63 2) w fun t_64 w =>
  bindS (vN (Instr.loadAt 36 t_64)) fun m_66 => ldv prog (Instr.loadAt 36 t_64) w fun t_65 w =>
  bindS (vN (Instr.loadAt 34 x_39)) fun m_68 => ldv prog (Instr.loadAt 34 x_39) w fun t_67 w =>
  Calls prog 31 #[t_65, t_67] w (Ret fun t_69 w =>
  pv prog (oNil c_p0) w fun t_70 w =>
  pvv prog (Instr.fieldAt 59 t_70 2) w fun t_71 w =>
  efu prog (Instr.storeAt 36 t_71 t_69) w fun u_72 w =>
  pv prog (oNil c_p0) w fun t_73 w =>
  pvv prog (Instr.fieldAt 59 t_73 3) w fun t_74 w =>
  efu prog (Instr.storeAt 3 t_74 at_p1) w fun u_75 w =>
  ldv prog (Instr.loadAt 34 x_39) w fun t_76 w =>
  efu prog (Instr.storeAt 34 t_0 t_76) w fun u_77 w =>
  ∃ r_78, (do loadVar 34 (← asAddr t_0)).run prog w = .ok r_78 w ∧ K (.tuple #[r_78, (.int .i64 0)]) w))
theorem B16_eq (c_p0 at_p1 what_p2 who_p3 : Value) (w : World) (K : Value → World → Prop) : denFn prog Tryd.f16 T16 [c_p0, at_p1, what_p2, who_p3] w K = B16 c_p0 at_p1 what_p2 who_p3 w K := by kernel_rfl
theorem c16 {c_p0 at_p1 what_p2 who_p3 : Value} {w : World} {K : Value → World → Prop} (h : B16 c_p0 at_p1 what_p2 who_p3 w K) : Calls prog 16 #[c_p0, at_p1, what_p2, who_p3] w (Ret K) :=
  denFn_calls Tryd.func16 T16_ok (Eq.mpr (B16_eq c_p0 at_p1 what_p2 who_p3 w K) h)

-- 26 (*holdfast/holdfastref14.Chain).Add
def T26 : Ann := (.seq .none (.seq (.block (.seq .none (.seq (.seq .none .none) (.seq .none (.seq (.seq .none .none) (.seq .none (.seq (.seq .none .none) (.seq .none (.seq (.seq .none .none) (.seq .none (.seq (.seq .none .none) .none))))))))))) (.seq .none (.seq .none (.seq .none (.seq .none (.seq (.draw [.op 0 .pure, .op 1 .pure, .op 2 .pure, .op 3 .pure, .op 4 .load, .op 5 .load, .op 6 .eff, .op 7 .eff, .op 8 .pure, .op 9 .pure, .op 10 .eff]) (.seq .none (.seq .none .none)))))))))
theorem T26_ok : chkFn prog Tryd.f26 T26 = true := by kernel_rfl
def B26 (c_p0 at_p1 what_p2 who_p3 : Value) (w : World) (K : Value → World → Prop) : Prop :=
  efv prog (Instr.alloc 34 true (.tuple #[])) w fun t_0 w =>
  pvv prog (oEq .eql 25 (.tmp 13) (.const (.pointer none)) c_p0 (.pointer none)) w fun t_1 w =>
  cd t_1 (
    pvv prog (Instr.build 34 #[]) w fun t_2 w =>
    efu prog (Instr.storeAt 34 t_0 t_2) w fun u_3 w =>
    ∃ r_4, (do loadVar 34 (← asAddr t_0)).run prog w = .ok r_4 w ∧ K (.tuple #[r_4, (.int .i64 1)]) w) <|
  pvv prog (binOp .lss 3 at_p1 (.int .i64 0)) w fun t_5 w =>
  gate (some (t_5, false)) (fun K => K at_p1 w) w fun t_6 w =>
  gate (some (t_5, false)) (fun K => pvv prog (binOp .gtr 3 t_6 (.int .i64 1099511627776)) w K) w fun t_7 w =>
  pv prog (oPick t_5 (.bool true) t_7) w fun t_8 w =>
  cd t_8 (
    pvv prog (Instr.build 34 #[]) w fun t_9 w =>
    efu prog (Instr.storeAt 34 t_0 t_9) w fun u_10 w =>
    ∃ r_11, (do loadVar 34 (← asAddr t_0)).run prog w = .ok r_11 w ∧ K (.tuple #[r_11, (.int .i64 2)]) w) <|
  pv prog (oBi .len #[9] 3 #[false] #[what_p2]) w fun t_12 w =>
  pvv prog (binOp .gtr 3 t_12 (.int .i64 12)) w fun t_13 w =>
  gate (some (t_13, false)) (fun K => K who_p3 w) w fun t_14 w =>
  gate (some (t_13, false)) (fun K => pv prog (oBi .len #[9] 3 #[false] #[t_14]) w K) w fun t_15 w =>
  gate (some (t_13, false)) (fun K => pvv prog (binOp .gtr 3 t_15 (.int .i64 30)) w K) w fun t_16 w =>
  pv prog (oPick t_13 (.bool true) t_16) w fun t_17 w =>
  cd t_17 (
    pvv prog (Instr.build 34 #[]) w fun t_18 w =>
    efu prog (Instr.storeAt 34 t_0 t_18) w fun u_19 w =>
    ∃ r_20, (do loadVar 34 (← asAddr t_0)).run prog w = .ok r_20 w ∧ K (.tuple #[r_20, (.int .i64 6)]) w) <|
  pv prog (oNil c_p0) w fun t_21 w =>
  pvv prog (Instr.fieldAt 61 t_21 2) w fun t_22 w =>
  ldv prog (Instr.loadAt 3 t_22) w fun t_23 w =>
  pvv prog (binOp .lss 3 at_p1 t_23) w fun t_24 w =>
  cd t_24 (
    pvv prog (Instr.build 34 #[]) w fun t_25 w =>
    efu prog (Instr.storeAt 34 t_0 t_25) w fun u_26 w =>
    ∃ r_27, (do loadVar 34 (← asAddr t_0)).run prog w = .ok r_27 w ∧ K (.tuple #[r_27, (.int .i64 9)]) w) <|
  pv prog (oNil c_p0) w fun t_28 w =>
  pvv prog (Instr.fieldAt 61 t_28 6) w fun t_29 w =>
  ldv prog (Instr.loadAt 31 t_29) w fun t_30 w =>
  pv prog (oBi .len #[31] 3 #[false] #[t_30]) w fun t_31 w =>
  pvv prog (binOp .geq 3 t_31 (.int .i64 64)) w fun t_32 w =>
  cd t_32 (
    pvv prog (Instr.build 34 #[]) w fun t_33 w =>
    efu prog (Instr.storeAt 34 t_0 t_33) w fun u_34 w =>
    ∃ r_35, (do loadVar 34 (← asAddr t_0)).run prog w = .ok r_35 w ∧ K (.tuple #[r_35, (.int .i64 26)]) w) <|
  Calls prog 36 #[c_p0] w (Ret fun t_36 w =>
  pvv prog (binOp .add 3 t_36 (.int .i64 1)) w fun t_37 w =>
  pvv prog (Instr.build 34 #[(0, t_37), (1, at_p1), (2, what_p2), (3, who_p3)]) w fun t_38 w =>
  efv prog (Instr.alloc 34 true (.tuple #[])) w fun x_39 w =>
  efu prog (Instr.storeAt 34 x_39 t_38) w fun u_40 w =>
  pv prog (oNil c_p0) w fun t_41 w =>
  pvv prog (Instr.fieldAt 61 t_41 6) w fun t_42 w =>
  ldv prog (Instr.loadAt 31 t_42) w fun t_43 w =>
  ef prog (oBi .append #[31, 31] 31 #[false, false] #[(.slice none 0 0), t_43]) w fun t_44 w =>
  ldv prog (Instr.loadAt 34 x_39) w fun t_45 w =>
  efv prog (Instr.buildSlice 31 1 #[(0, t_45)]) w fun t_46 w =>
  ef prog (oBi .append #[31, 31] 31 #[false, false] #[t_44, t_46]) w fun t_47 w =>
  pv prog (oNil c_p0) w fun t_48 w =>
  pvv prog (Instr.fieldAt 61 t_48 6) w fun t_49 w =>
  efu prog (Instr.storeAt 31 t_49 t_47) w fun u_50 w =>
  dr w fun w =>
  pv prog (oNil c_p0) w fun t_51 w =>
  pvv prog (Instr.fieldAt 61 t_51 5) w fun t_52 w =>
  bindS (vN (Instr.loadAt 36 t_52)) fun m_54 => ldv prog (Instr.loadAt 36 t_52) w fun t_53 w =>
  bindS (vN (Instr.loadAt 34 x_39)) fun m_56 => ldv prog (Instr.loadAt 34 x_39) w fun t_55 w =>
  Calls prog 43 #[t_55] w (Ret fun t_57 w => stay prog none m_54 t_53 w <| 
  Calls prog 42 #[t_53, t_57] w (Ret fun t_58 w => stay prog none m_56 t_55 w <| 
  pv prog (oNil c_p0) w fun t_59 w =>
  pvv prog (Instr.fieldAt 61 t_59 5) w fun t_60 w =>
  efu prog (Instr.storeAt 36 t_60 t_58) w fun u_61 w =>
  pv prog (oNil c_p0) w fun t_62 w =>
  pvv prog (Instr.fieldAt 61 t_62 2) w fun t_63 w =>
  efu prog (Instr.storeAt 3 t_63 at_p1) w fun u_64 w =>
  ldv prog (Instr.loadAt 34 x_39) w fun t_65 w =>
  efu prog (Instr.storeAt 34 t_0 t_65) w fun u_66 w =>
  ∃ r_67, (do loadVar 34 (← asAddr t_0)).run prog w = .ok r_67 w ∧ K (.tuple #[r_67, (.int .i64 0)]) w)))
theorem B26_eq (c_p0 at_p1 what_p2 who_p3 : Value) (w : World) (K : Value → World → Prop) : denFn prog Tryd.f26 T26 [c_p0, at_p1, what_p2, who_p3] w K = B26 c_p0 at_p1 what_p2 who_p3 w K := by kernel_rfl
theorem c26 {c_p0 at_p1 what_p2 who_p3 : Value} {w : World} {K : Value → World → Prop} (h : B26 c_p0 at_p1 what_p2 who_p3 w K) : Calls prog 26 #[c_p0, at_p1, what_p2, who_p3] w (Ret K) :=
  denFn_calls Tryd.func26 T26_ok (Eq.mpr (B26_eq c_p0 at_p1 what_p2 who_p3 w K) h)

-- 11 holdfast/holdfastlaw14.live
def T11 : Ann := (.seq .none (.seq .none (.seq (.seq .none (.seq (.seq .none .none) .none)) (.seq .none (.seq .none (.seq .none (.seq .none (.seq .none .none))))))))
theorem T11_ok : chkFn prog Tryd.f11 T11 = true := by kernel_rfl
def B11 (w : World) (K : Value → World → Prop) : Prop :=
  Calls prog 9 #[] w (Ret fun t_0 w =>
  pvv prog (oEq .eql 23 (.tmp 11) (.const (.pointer none)) t_0 (.pointer none)) w fun t_1 w =>
  cd t_1 (
    K (.bool false) w) <|
  Calls prog 16 #[t_0, (.int .i64 5), (.string ⟨#[108, 111, 103, 105, 110]⟩), (.string ⟨#[116, 47, 117]⟩)] w (Ret fun t_2 w =>
  pvv prog (Instr.extract t_2 0) w fun t_3 w =>
  pvv prog (Instr.extract t_2 1) w fun t_4 w =>
  efv prog (Instr.alloc 34 true (.tuple #[])) w fun x_5 w =>
  efu prog (Instr.storeAt 34 x_5 t_3) w fun u_6 w =>
  Calls prog 17 #[t_0] w (Ret fun t_7 w =>
  pvv prog (Instr.extract t_7 0) w fun t_8 w =>
  pvv prog (Instr.extract t_7 1) w fun t_9 w =>
  efv prog (Instr.alloc 36 true (.tuple #[])) w fun h_10 w =>
  efu prog (Instr.storeAt 36 h_10 t_9) w fun u_11 w =>
  Calls prog 18 #[t_0, (.int .i64 1)] w (Ret fun t_12 w =>
  pvv prog (Instr.extract t_12 0) w fun t_13 w =>
  pvv prog (Instr.extract t_12 1) w fun t_14 w =>
  Calls prog 16 #[t_0, (.int .i64 6), (.string ⟨#[116, 105, 99, 107]⟩), (.string ⟨#[]⟩)] w (Ret fun t_15 w =>
  pvv prog (Instr.extract t_15 0) w fun t_16 w =>
  pvv prog (Instr.extract t_15 1) w fun t_17 w =>
  efv prog (Instr.alloc 34 true (.tuple #[])) w fun y_18 w =>
  efu prog (Instr.storeAt 34 y_18 t_16) w fun u_19 w =>
  pvv prog (oEq .eql 41 (.tmp 33) (.const (.int .i64 0)) t_4 (.int .i64 0)) w fun t_20 w =>
  gate (some (t_20, true)) (fun K => pvv prog (Instr.fieldAt 34 x_5 0) w K) w fun t_21 w =>
  gate (some (t_20, true)) (fun K => ldv prog (Instr.loadAt 3 t_21) w K) w fun t_22 w =>
  gate (some (t_20, true)) (fun K => pvv prog (oEq .eql 3 (.tmp 37) (.const (.int .i64 1)) t_22 (.int .i64 1)) w K) w fun t_23 w =>
  pv prog (oPick t_20 t_23 (.bool false)) w fun t_24 w =>
  gate (some (t_24, true)) (fun K => K t_8 w) w fun t_25 w =>
  gate (some (t_24, true)) (fun K => pvv prog (oEq .eql 3 (.tmp 41) (.const (.int .i64 1)) t_25 (.int .i64 1)) w K) w fun t_26 w =>
  pv prog (oPick t_24 t_26 (.bool false)) w fun t_27 w =>
  gate (some (t_27, true)) (fun K => ldv prog (Instr.loadAt 36 h_10) w K) w fun t_28 w =>
  gate (some (t_27, true)) (fun K => pvv prog (Instr.build 36 #[]) w K) w fun t_29 w =>
  gate (some (t_27, true)) (fun K => pvv prog (oEq .neq 36 (.tmp 45) (.tmp 46) t_28 t_29) w K) w fun t_30 w =>
  pv prog (oPick t_27 t_30 (.bool false)) w fun t_31 w =>
  gate (some (t_31, true)) (fun K => K t_13 w) w fun t_32 w =>
  gate (some (t_31, true)) (fun K => pvv prog (oEq .eql 3 (.tmp 50) (.const (.int .i64 1)) t_32 (.int .i64 1)) w K) w fun t_33 w =>
  pv prog (oPick t_31 t_33 (.bool false)) w fun t_34 w =>
  gate (some (t_34, true)) (fun K => K t_14 w) w fun t_35 w =>
  gate (some (t_34, true)) (fun K => pvv prog (oEq .eql 41 (.tmp 54) (.const (.int .i64 0)) t_35 (.int .i64 0)) w K) w fun t_36 w =>
  pv prog (oPick t_34 t_36 (.bool false)) w fun t_37 w =>
  gate (some (t_37, true)) (fun K => pvv prog (Instr.fieldAt 34 y_18 0) w K) w fun t_38 w =>
  gate (some (t_37, true)) (fun K => ldv prog (Instr.loadAt 3 t_38) w K) w fun t_39 w =>
  gate (some (t_37, true)) (fun K => pvv prog (oEq .eql 3 (.tmp 59) (.const (.int .i64 2)) t_39 (.int .i64 2)) w K) w fun t_40 w =>
  pv prog (oPick t_37 t_40 (.bool false)) w fun t_41 w =>
  gate (some (t_41, true)) (fun K => K t_17 w) w fun t_42 w =>
  gate (some (t_41, true)) (fun K => pvv prog (oEq .eql 41 (.tmp 63) (.const (.int .i64 0)) t_42 (.int .i64 0)) w K) w fun t_43 w =>
  pv prog (oPick t_41 t_43 (.bool false)) w fun t_44 w =>
  gate (some (t_44, true)) (fun K => K t_0 w) w fun t_45 w =>
  gate (some (t_44, true)) (fun K => Calls prog 20 #[t_45] w (Ret K)) w fun t_46 w =>
  gate (some (t_44, true)) (fun K => pvv prog (oEq .eql 41 (.tmp 68) (.const (.int .i64 0)) t_46 (.int .i64 0)) w K) w fun t_47 w =>
  pv prog (oPick t_44 t_47 (.bool false)) w fun t_48 w =>
  K t_48 w)))))
theorem B11_eq (w : World) (K : Value → World → Prop) : denFn prog Tryd.f11 T11 [] w K = B11  w K := by kernel_rfl
theorem c11 {w : World} {K : Value → World → Prop} (h : B11  w K) : Calls prog 11 #[] w (Ret K) :=
  denFn_calls Tryd.func11 T11_ok (Eq.mpr (B11_eq  w K) h)

-- 4 holdfast/holdfastlaw14.AuditRooms
def T4 : Ann := (.seq .none (.seq .none (.seq (.seq .none (.seq (.seq .none .none) .none)) (.seq (.seq .none (.block (.loop 17592185782736 [6] (.seq (.seq .none (.seq .none .none)) (.seq (.block (.seq .none (.seq .none (.seq (.seq .none .none) .none)))) .none))))) (.seq .none (.seq .none (.seq .none (.seq .none (.seq (.seq .none (.seq (.seq .none .none) .none)) (.seq .none (.seq .none .none)))))))))))
theorem T4_ok : chkFn prog Tryd.f4 T4 = true := by kernel_rfl
def B4 (n_p0 k_p1 : Value) (w : World) (K : Value → World → Prop) : Prop :=
  Calls prog 9 #[] w (Ret fun t_0 w =>
  Calls prog 11 #[] w (Ret fun t_1 w =>
  pvv prog (Op.unary .not t_1) w fun t_2 w =>
  cd t_2 (
    K (.bool false) w) <|
  lp (fun σ w again_4 => pop σ fun i_3 σ => fin σ <|
    pvv prog (convert 5 3 n_p0) w fun t_5 w =>
    pvv prog (binOp .rem 3 t_5 (.int .i64 80)) w fun t_6 w =>
    pvv prog (binOp .lss 3 i_3 t_6) w fun t_7 w =>
    cd t_7 (
      Calls prog 16 #[t_0, i_3, (.string ⟨#[120]⟩), (.string ⟨#[121]⟩)] w (Ret fun t_8 w =>
      pvv prog (Instr.extract t_8 0) w fun t_9 w =>
      pvv prog (Instr.extract t_8 1) w fun t_10 w =>
      efv prog (Instr.alloc 34 true (.tuple #[])) w fun t_11 w =>
      efu prog (Instr.storeAt 34 t_11 t_9) w fun u_12 w =>
      pvv prog (oEq .eql 41 (.tmp 31) (.const (.int .i64 0)) t_10 (.int .i64 0)) w fun t_13 w =>
      pvv prog (binOp .lss 3 i_3 (.int .i64 64)) w fun t_14 w =>
      pvv prog (oEq .neq 4 (.tmp 32) (.tmp 34) t_13 t_14) w fun t_15 w =>
      gate (some (t_15, false)) (fun K => K t_10 w) w fun t_16 w =>
      gate (some (t_15, false)) (fun K => pvv prog (oEq .neq 41 (.tmp 37) (.const (.int .i64 0)) t_16 (.int .i64 0)) w K) w fun t_17 w =>
      gate (some (t_15, false)) (fun K => K t_17 w) w fun t_18 w =>
      gate (some (t_18, true)) (fun K => K t_10 w) w fun t_19 w =>
      gate (some (t_18, true)) (fun K => pvv prog (oEq .neq 41 (.tmp 40) (.const (.int .i64 26)) t_19 (.int .i64 26)) w K) w fun t_20 w =>
      gate (some (t_15, false)) (fun K => pv prog (oPick t_18 t_20 (.bool false)) w K) w fun t_21 w =>
      pv prog (oPick t_15 (.bool true) t_21) w fun t_22 w =>
      cd t_22 (
        K (.bool false) w) <|
      pvv prog (binOp .add 3 i_3 (.int .i64 1)) w fun t_23 w =>
      again_4 [t_23] w)) <|
    Calls prog 13 #[t_0] w (Ret fun t_24 w =>
    pv prog (oBi .len #[31] 3 #[false] #[t_24]) w fun t_25 w =>
    Calls prog 17 #[t_0] w (Ret fun t_26 w =>
    pvv prog (convert 5 3 k_p1) w fun t_27 w =>
    pvv prog (binOp .add 3 t_25 (.int .i64 1)) w fun t_28 w =>
    pvv prog (binOp .rem 3 t_27 t_28) w fun t_29 w =>
    Calls prog 18 #[t_0, t_29] w (Ret fun t_30 w =>
    pvv prog (Instr.extract t_30 0) w fun t_31 w =>
    pvv prog (Instr.extract t_30 1) w fun t_32 w =>
    pvv prog (oEq .neq 41 (.tmp 60) (.const (.int .i64 0)) t_32 (.int .i64 0)) w fun t_33 w =>
    gate (some (t_33, false)) (fun K => K t_31 w) w fun t_34 w =>
    gate (some (t_33, false)) (fun K => K t_29 w) w fun t_35 w =>
    gate (some (t_33, false)) (fun K => pvv prog (oEq .neq 3 (.tmp 63) (.tmp 64) t_34 t_35) w K) w fun t_36 w =>
    pv prog (oPick t_33 (.bool true) t_36) w fun t_37 w =>
    cd t_37 (
      K (.bool false) w) <|
    Calls prog 16 #[t_0, (.int .i64 1000), (.string ⟨#[120]⟩), (.string ⟨#[121]⟩)] w (Ret fun t_38 w =>
    pvv prog (Instr.extract t_38 0) w fun t_39 w =>
    pvv prog (Instr.extract t_38 1) w fun t_40 w =>
    efv prog (Instr.alloc 34 true (.tuple #[])) w fun t_41 w =>
    efu prog (Instr.storeAt 34 t_41 t_39) w fun u_42 w =>
    pvv prog (oEq .eql 41 (.tmp 72) (.const (.int .i64 0)) t_40 (.int .i64 0)) w fun t_43 w =>
    pvv prog (binOp .sub 3 t_25 t_29) w fun t_44 w =>
    pvv prog (binOp .lss 3 t_44 (.int .i64 64)) w fun t_45 w =>
    pvv prog (oEq .eql 4 (.tmp 73) (.tmp 77) t_43 t_45) w fun t_46 w =>
    K t_46 w))))) [(.int .i64 0)] w))
theorem B4_eq (n_p0 k_p1 : Value) (w : World) (K : Value → World → Prop) : denFn prog Tryd.f4 T4 [n_p0, k_p1] w K = B4 n_p0 k_p1 w K := by kernel_rfl
theorem c4 {n_p0 k_p1 : Value} {w : World} {K : Value → World → Prop} (h : B4 n_p0 k_p1 w K) : Calls prog 4 #[n_p0, k_p1] w (Ret K) :=
  denFn_calls Tryd.func4 T4_ok (Eq.mpr (B4_eq n_p0 k_p1 w K) h)

-- 72 internal/strconv.FormatInt
def T72 : Ann := (.seq .none (.seq (.seq .none (.seq (.seq (.seq .none (.seq (.seq .none .none) .none)) (.seq .none (.seq .none (.meet 62914624 [6] (.seq .none (.seq .none .none)) (.seq .none (.seq .none (.seq (.seq .none (.seq (.seq .none (.seq .none .none)) .none)) (.seq .none .none)))))))) .none)) (.seq .none (.seq .none .none))))
theorem T72_ok : chkFn prog Tryd.f72 T72 = true := by kernel_rfl
def B72 (i_p0 base_p1 : Value) (w : World) (K : Value → World → Prop) : Prop :=
  pvv prog (oEq .eql 3 (.tmp 10) (.const (.int .i64 10)) base_p1 (.int .i64 10)) w fun t_0 w =>
  cd t_0 (
    pvv prog (binOp .leq 2 (.int .i64 0) i_p0) w fun t_1 w =>
    gate (some (t_1, true)) (fun K => K i_p0 w) w fun t_2 w =>
    gate (some (t_1, true)) (fun K => pvv prog (binOp .lss 2 t_2 (.int .i64 100)) w K) w fun t_3 w =>
    pv prog (oPick t_1 t_3 (.bool false)) w fun t_4 w =>
    cd t_4 (
      Calls prog 84 #[i_p0] w (Ret fun t_5 w =>
      K t_5 w)) <|
    efv prog (Instr.alloc 122 true (.tuple #[])) w fun a_6 w =>
    pvv prog (convert 2 96 i_p0) w fun t_7 w =>
    jn (fun σ w => pop σ fun u_8 σ => fin σ <|
      Calls prog 85 #[u_8] w (Ret fun t_9 w =>
      pvv prog (binOp .add 3 (.int .i64 1) t_9) w fun t_10 w =>
      pvv prog (Instr.sliceAt 122 a_6 (some (.int .i64 1)) (some t_10) none) w fun t_11 w =>
      Calls prog 86 #[t_11, u_8] w (Ret fun t_12 w =>
      pvv prog (binOp .lss 2 i_p0 (.int .i64 0)) w fun t_13 w =>
      cd t_13 (
        pvv prog (Instr.indexAt 122 a_6 (.int .i64 0)) w fun t_14 w =>
        efu prog (Instr.storeAt 5 t_14 (.int .u8 45)) w fun u_15 w =>
        pvv prog (binOp .add 3 (.int .i64 1) t_9) w fun t_16 w =>
        pvv prog (Instr.sliceAt 122 a_6 none (some t_16) none) w fun t_17 w =>
        efv prog (convert 72 9 t_17) w fun t_18 w =>
        K t_18 w) <|
      pvv prog (binOp .add 3 (.int .i64 1) t_9) w fun t_19 w =>
      pvv prog (Instr.sliceAt 122 a_6 (some (.int .i64 1)) (some t_19) none) w fun t_20 w =>
      efv prog (convert 72 9 t_20) w fun t_21 w =>
      K t_21 w))) fun k_22 =>
    pvv prog (binOp .lss 2 i_p0 (.int .i64 0)) w fun t_23 w =>
    cd t_23 (
      pvv prog (Op.unary .neg t_7) w fun t_24 w =>
      k_22 [t_24] w) <|
    k_22 [t_7] w) <|
  pvv prog (convert 2 96 i_p0) w fun t_25 w =>
  pvv prog (binOp .lss 2 i_p0 (.int .i64 0)) w fun t_26 w =>
  Calls prog 87 #[(.slice none 0 0), t_25, base_p1, t_26, (.bool false)] w (Ret fun t_27 w =>
  pvv prog (Instr.extract t_27 0) w fun t_28 w =>
  pvv prog (Instr.extract t_27 1) w fun t_29 w =>
  K t_29 w)
theorem B72_eq (i_p0 base_p1 : Value) (w : World) (K : Value → World → Prop) : denFn prog Tryd.f72 T72 [i_p0, base_p1] w K = B72 i_p0 base_p1 w K := by kernel_rfl
theorem c72 {i_p0 base_p1 : Value} {w : World} {K : Value → World → Prop} (h : B72 i_p0 base_p1 w K) : Calls prog 72 #[i_p0, base_p1] w (Ret K) :=
  denFn_calls Tryd.func72 T72_ok (Eq.mpr (B72_eq i_p0 base_p1 w K) h)

-- 41 holdfast/audit.take
def T41 : Ann := (.seq .none (.seq (.seq .none (.seq (.seq .none .none) .none)) (.seq (.draw [.op 0 .pure, .op 1 .pure, .op 2 .pure, .op 3 .pure, .op 4 .load, .op 5 .pure, .op 6 .load, .op 7 .eff]) (.seq .none .none))))
theorem T41_ok : chkFn prog Tryd.f41 T41 = true := by kernel_rfl
def B41 (r_p0 key_p1 h_p2 : Value) (w : World) (K : Value → World → Prop) : Prop :=
  efv prog (Instr.box 71 r_p0) w fun r_0 w =>
  pvv prog (Instr.fieldAt 71 r_0 0) w fun t_1 w =>
  ldv prog (Instr.loadAt 9 t_1) w fun t_2 w =>
  pvv prog (oEq .neq 9 (.tmp 8) (.tmp 9) t_2 key_p1) w fun t_3 w =>
  gate (some (t_3, false)) (fun K => pvv prog (Instr.fieldAt 71 r_0 1) w K) w fun t_4 w =>
  gate (some (t_3, false)) (fun K => ldv prog (Instr.loadAt 69 t_4) w K) w fun t_5 w =>
  gate (some (t_3, false)) (fun K => pv prog (oBi .len #[69] 3 #[false] #[t_5]) w K) w fun t_6 w =>
  gate (some (t_3, false)) (fun K => pvv prog (oEq .neq 3 (.tmp 14) (.const (.int .i64 1)) t_6 (.int .i64 1)) w K) w fun t_7 w =>
  pv prog (oPick t_3 (.bool true) t_7) w fun t_8 w =>
  gate (some (t_8, false)) (fun K => pvv prog (Instr.fieldAt 71 r_0 1) w K) w fun t_9 w =>
  gate (some (t_8, false)) (fun K => ldv prog (Instr.loadAt 69 t_9) w K) w fun t_10 w =>
  gate (some (t_8, false)) (fun K => pvv prog (Instr.indexAt 69 t_10 (.int .i64 0)) w K) w fun t_11 w =>
  gate (some (t_8, false)) (fun K => ldv prog (Instr.loadAt 9 t_11) w K) w fun t_12 w =>
  gate (some (t_8, false)) (fun K => pv prog (oBi .len #[9] 3 #[false] #[t_12]) w K) w fun t_13 w =>
  gate (some (t_8, false)) (fun K => pvv prog (oEq .neq 3 (.tmp 22) (.const (.int .i64 32)) t_13 (.int .i64 32)) w K) w fun t_14 w =>
  pv prog (oPick t_8 (.bool true) t_14) w fun t_15 w =>
  cd t_15 (
    K (.bool false) w) <|
  dr w fun w =>
  pv prog (oNil h_p2) w fun t_16 w =>
  pvv prog (Instr.sliceAt 36 t_16 none none none) w fun t_17 w =>
  pvv prog (Instr.fieldAt 71 r_0 1) w fun t_18 w =>
  bindS (vN (Instr.loadAt 69 t_18)) fun m_20 => ldv prog (Instr.loadAt 69 t_18) w fun t_19 w =>
  pvv prog (Instr.indexAt 69 t_19 (.int .i64 0)) w fun t_21 w =>
  bindS (vN (Instr.loadAt 9 t_21)) fun m_23 => ldv prog (Instr.loadAt 9 t_21) w fun t_22 w =>
  ef prog (oBi .copy #[72, 9] 3 #[false, false] #[t_17, t_22]) w fun t_24 w => stay prog none m_20 t_19 w <| 
  K (.bool true) w
theorem B41_eq (r_p0 key_p1 h_p2 : Value) (w : World) (K : Value → World → Prop) : denFn prog Tryd.f41 T41 [r_p0, key_p1, h_p2] w K = B41 r_p0 key_p1 h_p2 w K := by kernel_rfl
theorem c41 {r_p0 key_p1 h_p2 : Value} {w : World} {K : Value → World → Prop} (h : B41 r_p0 key_p1 h_p2 w K) : Calls prog 41 #[r_p0, key_p1, h_p2] w (Ret K) :=
  denFn_calls Tryd.func41 T41_ok (Eq.mpr (B41_eq r_p0 key_p1 h_p2 w K) h)

-- 8 holdfast/holdfastlaw14.AuditSound
def T8 : Ann := (.seq .none (.seq .none (.seq (.seq .none (.seq (.seq .none .none) .none)) (.seq (.seq .none (.block (.loop 4294963236 [5] (.seq (.seq .none (.seq .none .none)) (.seq (.block (.seq .none (.seq .none (.seq (.seq .none .none) .none)))) .none))))) (.seq .none (.seq .none .none))))))
theorem T8_ok : chkFn prog Tryd.f8 T8 = true := by kernel_rfl
def B8 (l_p0 : Value) (w : World) (K : Value → World → Prop) : Prop :=
  Calls prog 9 #[] w (Ret fun t_0 w =>
  Calls prog 10 #[] w (Ret fun t_1 w =>
  Calls prog 11 #[] w (Ret fun t_2 w =>
  pvv prog (Op.unary .not t_2) w fun t_3 w =>
  cd t_3 (
    K (.bool false) w) <|
  lp (fun σ w again_5 => pop σ fun i_4 σ => fin σ <|
    pv prog (oBi .len #[22] 3 #[false] #[l_p0]) w fun t_6 w =>
    pvv prog (binOp .lss 3 i_4 t_6) w fun t_7 w =>
    gate (some (t_7, true)) (fun K => K i_4 w) w fun t_8 w =>
    gate (some (t_7, true)) (fun K => pvv prog (binOp .lss 3 t_8 (.int .i64 100)) w K) w fun t_9 w =>
    pv prog (oPick t_7 t_9 (.bool false)) w fun t_10 w =>
    cd t_10 (
      pvv prog (Instr.indexAt 22 l_p0 i_4) w fun t_11 w =>
      ldv prog (Instr.loadAt 30 t_11) w fun t_12 w =>
      Calls prog 12 #[t_0, t_1, t_12] w (Ret fun t_13 w =>
      Calls prog 20 #[t_0] w (Ret fun t_14 w =>
      pvv prog (oEq .neq 41 (.tmp 30) (.const (.int .i64 0)) t_14 (.int .i64 0)) w fun t_15 w =>
      cd t_15 (
        K (.bool false) w) <|
      pvv prog (binOp .add 3 i_4 (.int .i64 1)) w fun t_16 w =>
      again_5 [t_16] w))) <|
    Calls prog 24 #[t_0] w (Ret fun t_17 w =>
    Calls prog 25 #[t_17] w (Ret fun t_18 w =>
    pvv prog (Instr.extract t_18 0) w fun t_19 w =>
    pvv prog (Instr.extract t_18 1) w fun t_20 w =>
    pvv prog (oEq .eql 41 (.tmp 38) (.const (.int .i64 0)) t_20 (.int .i64 0)) w fun t_21 w =>
    gate (some (t_21, true)) (fun K => K t_19 w) w fun t_22 w =>
    gate (some (t_21, true)) (fun K => Calls prog 20 #[t_22] w (Ret K)) w fun t_23 w =>
    gate (some (t_21, true)) (fun K => pvv prog (oEq .eql 41 (.tmp 42) (.const (.int .i64 0)) t_23 (.int .i64 0)) w K) w fun t_24 w =>
    pv prog (oPick t_21 t_24 (.bool false)) w fun t_25 w =>
    K t_25 w))) [(.int .i64 0)] w)))
theorem B8_eq (l_p0 : Value) (w : World) (K : Value → World → Prop) : denFn prog Tryd.f8 T8 [l_p0] w K = B8 l_p0 w K := by kernel_rfl
theorem c8 {l_p0 : Value} {w : World} {K : Value → World → Prop} (h : B8 l_p0 w K) : Calls prog 8 #[l_p0] w (Ret K) :=
  denFn_calls Tryd.func8 T8_ok (Eq.mpr (B8_eq l_p0 w K) h)

-- 65 holdfast/holdfastref07.constants
def T65 : Ann := (.seq .none (.seq .none .none))
theorem T65_ok : chkFn prog Tryd.f65 T65 = true := by kernel_rfl
def B65 (w : World) (K : Value → World → Prop) : Prop :=
  efv prog (Instr.buildSlice 102 64 #[(0, (.int .u32 1116352408)), (1, (.int .u32 1899447441)), (2, (.int .u32 3049323471)), (3, (.int .u32 3921009573)), (4, (.int .u32 961987163)), (5, (.int .u32 1508970993)), (6, (.int .u32 2453635748)), (7, (.int .u32 2870763221)), (8, (.int .u32 3624381080)), (9, (.int .u32 310598401)), (10, (.int .u32 607225278)), (11, (.int .u32 1426881987)), (12, (.int .u32 1925078388)), (13, (.int .u32 2162078206)), (14, (.int .u32 2614888103)), (15, (.int .u32 3248222580)), (16, (.int .u32 3835390401)), (17, (.int .u32 4022224774)), (18, (.int .u32 264347078)), (19, (.int .u32 604807628)), (20, (.int .u32 770255983)), (21, (.int .u32 1249150122)), (22, (.int .u32 1555081692)), (23, (.int .u32 1996064986)), (24, (.int .u32 2554220882)), (25, (.int .u32 2821834349)), (26, (.int .u32 2952996808)), (27, (.int .u32 3210313671)), (28, (.int .u32 3336571891)), (29, (.int .u32 3584528711)), (30, (.int .u32 113926993)), (31, (.int .u32 338241895)), (32, (.int .u32 666307205)), (33, (.int .u32 773529912)), (34, (.int .u32 1294757372)), (35, (.int .u32 1396182291)), (36, (.int .u32 1695183700)), (37, (.int .u32 1986661051)), (38, (.int .u32 2177026350)), (39, (.int .u32 2456956037)), (40, (.int .u32 2730485921)), (41, (.int .u32 2820302411)), (42, (.int .u32 3259730800)), (43, (.int .u32 3345764771)), (44, (.int .u32 3516065817)), (45, (.int .u32 3600352804)), (46, (.int .u32 4094571909)), (47, (.int .u32 275423344)), (48, (.int .u32 430227734)), (49, (.int .u32 506948616)), (50, (.int .u32 659060556)), (51, (.int .u32 883997877)), (52, (.int .u32 958139571)), (53, (.int .u32 1322822218)), (54, (.int .u32 1537002063)), (55, (.int .u32 1747873779)), (56, (.int .u32 1955562222)), (57, (.int .u32 2024104815)), (58, (.int .u32 2227730452)), (59, (.int .u32 2361852424)), (60, (.int .u32 2428436474)), (61, (.int .u32 2756734187)), (62, (.int .u32 3204031479)), (63, (.int .u32 3329325298))]) w fun t_0 w =>
  K t_0 w
theorem B65_eq (w : World) (K : Value → World → Prop) : denFn prog Tryd.f65 T65 [] w K = B65  w K := by kernel_rfl
theorem c65 {w : World} {K : Value → World → Prop} (h : B65  w K) : Calls prog 65 #[] w (Ret K) :=
  denFn_calls Tryd.func65 T65_ok (Eq.mpr (B65_eq  w K) h)

-- 82 strconv.toError
def T82 : Ann := (.seq .none (.seq (.seq .none (.block (.seq .none (.seq (.seq .none .none) (.seq .none (.seq (.seq .none .none) (.seq .none (.seq (.seq .none .none) (.seq .none (.seq (.seq .none .none) .none)))))))))) (.seq .none .none)))
theorem T82_ok : chkFn prog Tryd.f82 T82 = true := by kernel_rfl
def B82 (fn_p0 s_p1 base_p2 bitSize_p3 err_p4 : Value) (w : World) (K : Value → World → Prop) : Prop :=
  pvv prog (Instr.makeInterface 131 (.int .i64 2)) w fun t_0 w =>
  pvv prog (oEq .eql 98 (.tmp 11) (.tmp 13) err_p4 t_0) w fun t_1 w =>
  cd t_1 (
    Calls prog 94 #[fn_p0, s_p1] w (Ret fun t_2 w =>
    pvv prog (Instr.makeInterface 134 t_2) w fun t_3 w =>
    K t_3 w)) <|
  pvv prog (Instr.makeInterface 131 (.int .i64 1)) w fun t_4 w =>
  pvv prog (oEq .eql 98 (.tmp 11) (.tmp 20) err_p4 t_4) w fun t_5 w =>
  cd t_5 (
    Calls prog 95 #[fn_p0, s_p1] w (Ret fun t_6 w =>
    pvv prog (Instr.makeInterface 134 t_6) w fun t_7 w =>
    K t_7 w)) <|
  pvv prog (Instr.makeInterface 131 (.int .i64 3)) w fun t_8 w =>
  pvv prog (oEq .eql 98 (.tmp 11) (.tmp 27) err_p4 t_8) w fun t_9 w =>
  cd t_9 (
    Calls prog 96 #[fn_p0, s_p1, base_p2] w (Ret fun t_10 w =>
    pvv prog (Instr.makeInterface 134 t_10) w fun t_11 w =>
    K t_11 w)) <|
  pvv prog (Instr.makeInterface 131 (.int .i64 4)) w fun t_12 w =>
  pvv prog (oEq .eql 98 (.tmp 11) (.tmp 35) err_p4 t_12) w fun t_13 w =>
  cd t_13 (
    Calls prog 97 #[fn_p0, s_p1, bitSize_p3] w (Ret fun t_14 w =>
    pvv prog (Instr.makeInterface 134 t_14) w fun t_15 w =>
    K t_15 w)) <|
  K err_p4 w
theorem B82_eq (fn_p0 s_p1 base_p2 bitSize_p3 err_p4 : Value) (w : World) (K : Value → World → Prop) : denFn prog Tryd.f82 T82 [fn_p0, s_p1, base_p2, bitSize_p3, err_p4] w K = B82 fn_p0 s_p1 base_p2 bitSize_p3 err_p4 w K := by kernel_rfl
theorem c82 {fn_p0 s_p1 base_p2 bitSize_p3 err_p4 : Value} {w : World} {K : Value → World → Prop} (h : B82 fn_p0 s_p1 base_p2 bitSize_p3 err_p4 w K) : Calls prog 82 #[fn_p0, s_p1, base_p2, bitSize_p3, err_p4] w (Ret K) :=
  denFn_calls Tryd.func82 T82_ok (Eq.mpr (B82_eq fn_p0 s_p1 base_p2 bitSize_p3 err_p4 w K) h)

-- 58 holdfast/holdfastref02.Number
def T58 : Ann := (.seq .none (.seq (.seq .none (.seq (.seq .none .none) .none)) (.seq .none (.seq .none (.seq (.block (.loop 33550385 [0, 4, 5] (.seq (.seq .none (.seq .none .none)) (.seq (.block (.seq .none .none)) .none)))) (.seq .none .none))))))
theorem T58_ok : chkFn prog Tryd.f58 T58 = true := by kernel_rfl
def B58 (n_p0 : Value) (w : World) (K : Value → World → Prop) : Prop :=
  pvv prog (binOp .lss 3 n_p0 (.int .i64 0)) w fun t_0 w =>
  gate (some (t_0, false)) (fun K => K n_p0 w) w fun t_1 w =>
  gate (some (t_0, false)) (fun K => pvv prog (binOp .gtr 3 t_1 (.int .i64 4611686018427387904)) w K) w fun t_2 w =>
  pv prog (oPick t_0 (.bool true) t_2) w fun t_3 w =>
  cd t_3 (
    K (.tuple #[(.string ⟨#[]⟩), (.int .i64 2)]) w) <|
  lp (fun σ w again_7 => pop σ fun n_4 σ => pop σ fun s_5 σ => pop σ fun k_6 σ => fin σ <|
    pvv prog (binOp .gtr 3 n_4 (.int .i64 0)) w fun t_8 w =>
    cd t_8 (
      pvv prog (binOp .rem 3 n_4 (.int .i64 16)) w fun t_9 w =>
      Calls prog 70 #[t_9] w (Ret fun t_10 w =>
      efv prog (Instr.buildSlice 72 1 #[(0, t_10)]) w fun t_11 w =>
      efv prog (convert 72 9 t_11) w fun t_12 w =>
      pvv prog (binOp .add 9 t_12 s_5) w fun t_13 w =>
      pvv prog (binOp .add 3 k_6 (.int .i64 1)) w fun t_14 w =>
      pvv prog (binOp .quo 3 n_4 (.int .i64 16)) w fun t_15 w =>
      again_7 [t_15, t_13, t_14] w)) <|
    pvv prog (binOp .add 3 (.int .i64 97) k_6) w fun t_16 w =>
    pvv prog (convert 3 5 t_16) w fun t_17 w =>
    efv prog (Instr.buildSlice 72 1 #[(0, t_17)]) w fun t_18 w =>
    efv prog (convert 72 9 t_18) w fun t_19 w =>
    pvv prog (binOp .add 9 t_19 s_5) w fun t_20 w =>
    K (.tuple #[t_20, (.int .i64 0)]) w) [n_p0, (.string ⟨#[]⟩), (.int .i64 0)] w
theorem B58_eq (n_p0 : Value) (w : World) (K : Value → World → Prop) : denFn prog Tryd.f58 T58 [n_p0] w K = B58 n_p0 w K := by kernel_rfl
theorem c58 {n_p0 : Value} {w : World} {K : Value → World → Prop} (h : B58 n_p0 w K) : Calls prog 58 #[n_p0] w (Ret K) :=
  denFn_calls Tryd.func58 T58_ok (Eq.mpr (B58_eq n_p0 w K) h)

-- 48 holdfast/holdfastref02.SameTexts
def T48 : Ann := (.seq .none (.seq (.seq .none (.seq (.seq .none .none) .none)) (.seq (.seq .none (.block (.loop 67106864 [5] (.seq (.seq .none (.seq .none .none)) (.seq (.block (.seq (.draw [.op 0 .pure, .op 1 .pure, .op 2 .pure, .op 4 .pure, .op 5 .pure, .op 6 .pure, .op 3 .load, .op 7 .load, .op 8 .pure]) (.seq (.seq .none .none) .none))) .none))))) (.seq .none .none))))
theorem T48_ok : chkFn prog Tryd.f48 T48 = true := by kernel_rfl
def B48 (a_p0 b_p1 : Value) (w : World) (K : Value → World → Prop) : Prop :=
  pv prog (oBi .len #[69] 3 #[false] #[a_p0]) w fun t_0 w =>
  pv prog (oBi .len #[69] 3 #[false] #[b_p1]) w fun t_1 w =>
  pvv prog (oEq .neq 3 (.tmp 7) (.tmp 9) t_0 t_1) w fun t_2 w =>
  cd t_2 (
    K (.bool false) w) <|
  lp (fun σ w again_4 => pop σ fun i_3 σ => fin σ <|
    pv prog (oBi .len #[69] 3 #[false] #[a_p0]) w fun t_5 w =>
    pvv prog (binOp .lss 3 i_3 t_5) w fun t_6 w =>
    cd t_6 (
      dr w fun w =>
      pvv prog (Instr.indexAt 69 a_p0 i_3) w fun t_7 w =>
      pvv prog (Instr.indexAt 69 b_p1 i_3) w fun t_8 w =>
      bindS (vN (Instr.loadAt 9 t_7)) fun m_10 => ldv prog (Instr.loadAt 9 t_7) w fun t_9 w =>
      bindS (vN (Instr.loadAt 9 t_8)) fun m_12 => ldv prog (Instr.loadAt 9 t_8) w fun t_11 w =>
      pvv prog (oEq .neq 9 (.tmp 20) (.tmp 24) t_9 t_11) w fun t_13 w =>
      cd t_13 (
        K (.bool false) w) <|
      pvv prog (binOp .add 3 i_3 (.int .i64 1)) w fun t_14 w =>
      again_4 [t_14] w) <|
    K (.bool true) w) [(.int .i64 0)] w
theorem B48_eq (a_p0 b_p1 : Value) (w : World) (K : Value → World → Prop) : denFn prog Tryd.f48 T48 [a_p0, b_p1] w K = B48 a_p0 b_p1 w K := by kernel_rfl
theorem c48 {a_p0 b_p1 : Value} {w : World} {K : Value → World → Prop} (h : B48 a_p0 b_p1 w K) : Calls prog 48 #[a_p0, b_p1] w (Ret K) :=
  denFn_calls Tryd.func48 T48_ok (Eq.mpr (B48_eq a_p0 b_p1 w K) h)

-- 78 strings.trimRightASCII
def T78 : Ann := (.seq .none (.meet 2097121 [0] (.block (.loop 2097121 [0] (.seq (.seq .none (.seq .none .none)) (.block (.seq (.seq .none (.seq .none .none)) .none))))) (.seq .none .none)))
theorem T78_ok : chkFn prog Tryd.f78 T78 = true := by kernel_rfl
def B78 (s_p0 as_p1 : Value) (w : World) (K : Value → World → Prop) : Prop :=
  jn (fun σ w => pop σ fun s_0 σ => fin σ <|
    K s_0 w) fun k_1 =>
  lp (fun σ w again_3 => pop σ fun s_2 σ => fin σ <|
    pv prog (oBi .len #[9] 3 #[false] #[s_2]) w fun t_4 w =>
    pvv prog (binOp .gtr 3 t_4 (.int .i64 0)) w fun t_5 w =>
    cd t_5 (
      pv prog (oBi .len #[9] 3 #[false] #[s_2]) w fun t_6 w =>
      pvv prog (binOp .sub 3 t_6 (.int .i64 1)) w fun t_7 w =>
      pvv prog (Instr.index 9 s_2 t_7) w fun t_8 w =>
      Calls prog 88 #[as_p1, t_8] w (Ret fun t_9 w =>
      pvv prog (Op.unary .not t_9) w fun t_10 w =>
      cd t_10 (
        k_1 [s_2] w) <|
      pv prog (oBi .len #[9] 3 #[false] #[s_2]) w fun t_11 w =>
      pvv prog (binOp .sub 3 t_11 (.int .i64 1)) w fun t_12 w =>
      pvv prog (Instr.sliceAt 9 s_2 none (some t_12) none) w fun t_13 w =>
      again_3 [t_13] w)) <|
    k_1 [s_2] w) [s_p0] w
theorem B78_eq (s_p0 as_p1 : Value) (w : World) (K : Value → World → Prop) : denFn prog Tryd.f78 T78 [s_p0, as_p1] w K = B78 s_p0 as_p1 w K := by kernel_rfl
theorem c78 {s_p0 as_p1 : Value} {w : World} {K : Value → World → Prop} (h : B78 s_p0 as_p1 w K) : Calls prog 78 #[s_p0, as_p1] w (Ret K) :=
  denFn_calls Tryd.func78 T78_ok (Eq.mpr (B78_eq s_p0 as_p1 w K) h)

-- 79 strings.trimLeftUnicode
def T79 : Ann := (.seq .none (.meet 4194273 [0] (.block (.loop 4194273 [0] (.seq (.seq .none (.seq .none .none)) (.block (.seq .none (.seq (.seq .none (.seq .none .none)) .none)))))) (.seq .none .none)))
theorem T79_ok : chkFn prog Tryd.f79 T79 = true := by kernel_rfl
def B79 (s_p0 cutset_p1 : Value) (w : World) (K : Value → World → Prop) : Prop :=
  jn (fun σ w => pop σ fun s_0 σ => fin σ <|
    K s_0 w) fun k_1 =>
  lp (fun σ w again_3 => pop σ fun s_2 σ => fin σ <|
    pv prog (oBi .len #[9] 3 #[false] #[s_2]) w fun t_4 w =>
    pvv prog (binOp .gtr 3 t_4 (.int .i64 0)) w fun t_5 w =>
    cd t_5 (
      Calls prog 89 #[s_2] w (Ret fun t_6 w =>
      pvv prog (Instr.extract t_6 0) w fun t_7 w =>
      pvv prog (Instr.extract t_6 1) w fun t_8 w =>
      Calls prog 90 #[cutset_p1, t_7] w (Ret fun t_9 w =>
      pvv prog (Op.unary .not t_9) w fun t_10 w =>
      cd t_10 (
        k_1 [s_2] w) <|
      pvv prog (Instr.sliceAt 9 s_2 (some t_8) none none) w fun t_11 w =>
      again_3 [t_11] w))) <|
    k_1 [s_2] w) [s_p0] w
theorem B79_eq (s_p0 cutset_p1 : Value) (w : World) (K : Value → World → Prop) : denFn prog Tryd.f79 T79 [s_p0, cutset_p1] w K = B79 s_p0 cutset_p1 w K := by kernel_rfl
theorem c79 {s_p0 cutset_p1 : Value} {w : World} {K : Value → World → Prop} (h : B79 s_p0 cutset_p1 w K) : Calls prog 79 #[s_p0, cutset_p1] w (Ret K) :=
  denFn_calls Tryd.func79 T79_ok (Eq.mpr (B79_eq s_p0 cutset_p1 w K) h)

-- 89 unicode/utf8.DecodeRuneInString
def T89 : Ann := (.seq .none (.seq (.seq .none (.seq (.seq .none .none) .none)) .none))
theorem T89_ok : chkFn prog Tryd.f89 T89 = true := by kernel_rfl
def B89 (s_p0 : Value) (w : World) (K : Value → World → Prop) : Prop :=
  pvv prog (oEq .neq 9 (.tmp 4) (.const (.string ⟨#[]⟩)) s_p0 (.string ⟨#[]⟩)) w fun t_0 w =>
  gate (some (t_0, true)) (fun K => K s_p0 w) w fun t_1 w =>
  gate (some (t_0, true)) (fun K => pvv prog (Instr.index 9 t_1 (.int .i64 0)) w K) w fun t_2 w =>
  gate (some (t_0, true)) (fun K => pvv prog (binOp .lss 5 t_2 (.int .u8 128)) w K) w fun t_3 w =>
  pv prog (oPick t_0 t_3 (.bool false)) w fun t_4 w =>
  cd t_4 (
    pvv prog (Instr.index 9 s_p0 (.int .i64 0)) w fun t_5 w =>
    pvv prog (convert 5 21 t_5) w fun t_6 w =>
    K (.tuple #[t_6, (.int .i64 1)]) w) <|
  Calls prog 103 #[s_p0] w (Ret fun t_7 w =>
  pvv prog (Instr.extract t_7 0) w fun t_8 w =>
  pvv prog (Instr.extract t_7 1) w fun t_9 w =>
  K (.tuple #[t_8, t_9]) w)
theorem B89_eq (s_p0 : Value) (w : World) (K : Value → World → Prop) : denFn prog Tryd.f89 T89 [s_p0] w K = B89 s_p0 w K := by kernel_rfl
theorem c89 {s_p0 : Value} {w : World} {K : Value → World → Prop} (h : B89 s_p0 w K) : Calls prog 89 #[s_p0] w (Ret K) :=
  denFn_calls Tryd.func89 T89_ok (Eq.mpr (B89_eq s_p0 w K) h)

-- 112 unicode/utf8.ValidRune
def T112 : Ann := (.seq .none (.seq (.block (.seq .none (.seq (.seq .none .none) (.seq .none (.seq (.seq .none .none) .none))))) (.seq .none .none)))
theorem T112_ok : chkFn prog Tryd.f112 T112 = true := by kernel_rfl
def B112 (r_p0 : Value) (w : World) (K : Value → World → Prop) : Prop :=
  pvv prog (binOp .leq 21 (.int .i32 0) r_p0) w fun t_0 w =>
  gate (some (t_0, true)) (fun K => K r_p0 w) w fun t_1 w =>
  gate (some (t_0, true)) (fun K => pvv prog (binOp .lss 21 t_1 (.int .i32 55296)) w K) w fun t_2 w =>
  pv prog (oPick t_0 t_2 (.bool false)) w fun t_3 w =>
  cd t_3 (
    K (.bool true) w) <|
  pvv prog (binOp .lss 21 (.int .i32 57343) r_p0) w fun t_4 w =>
  gate (some (t_4, true)) (fun K => K r_p0 w) w fun t_5 w =>
  gate (some (t_4, true)) (fun K => pvv prog (binOp .leq 21 t_5 (.int .i32 1114111)) w K) w fun t_6 w =>
  pv prog (oPick t_4 t_6 (.bool false)) w fun t_7 w =>
  cd t_7 (
    K (.bool true) w) <|
  K (.bool false) w
theorem B112_eq (r_p0 : Value) (w : World) (K : Value → World → Prop) : denFn prog Tryd.f112 T112 [r_p0] w K = B112 r_p0 w K := by kernel_rfl
theorem c112 {r_p0 : Value} {w : World} {K : Value → World → Prop} (h : B112 r_p0 w K) : Calls prog 112 #[r_p0] w (Ret K) :=
  denFn_calls Tryd.func112 T112_ok (Eq.mpr (B112_eq r_p0 w K) h)

-- 110 math/bits.TrailingZeros64
def T110 : Ann := (.seq .none (.seq (.seq .none (.seq (.seq .none .none) .none)) (.seq .none .none)))
theorem T110_ok : chkFn prog Tryd.f110 T110 = true := by kernel_rfl
def B110 (x_p0 : Value) (w : World) (K : Value → World → Prop) : Prop :=
  pvv prog (oEq .eql 96 (.tmp 3) (.const (.int .u64 0)) x_p0 (.int .u64 0)) w fun t_0 w =>
  cd t_0 (
    K (.int .i64 64) w) <|
  pvv prog (Op.unary .neg x_p0) w fun t_1 w =>
  pvv prog (binOp .and 96 x_p0 t_1) w fun t_2 w =>
  pvv prog (binOp .mul 96 t_2 (.int .u64 285870213051353865)) w fun t_3 w =>
  pvv prog (binOp .shr 96 t_3 (.int .u64 58)) w fun t_4 w =>
  pvv prog (Instr.indexAt 160 (.pointer (some ⟨6, 0, none⟩)) t_4) w fun t_5 w =>
  ldv prog (Instr.loadAt 5 t_5) w fun t_6 w =>
  pvv prog (convert 5 3 t_6) w fun t_7 w =>
  K t_7 w
theorem B110_eq (x_p0 : Value) (w : World) (K : Value → World → Prop) : denFn prog Tryd.f110 T110 [x_p0] w K = B110 x_p0 w K := by kernel_rfl
theorem c110 {x_p0 : Value} {w : World} {K : Value → World → Prop} (h : B110 x_p0 w K) : Calls prog 110 #[x_p0] w (Ret K) :=
  denFn_calls Tryd.func110 T110_ok (Eq.mpr (B110_eq x_p0 w K) h)

-- 109 math/bits.TrailingZeros32
def T109 : Ann := (.seq .none (.seq (.seq .none (.seq (.seq .none .none) .none)) (.seq .none .none)))
theorem T109_ok : chkFn prog Tryd.f109 T109 = true := by kernel_rfl
def B109 (x_p0 : Value) (w : World) (K : Value → World → Prop) : Prop :=
  pvv prog (oEq .eql 101 (.tmp 3) (.const (.int .u32 0)) x_p0 (.int .u32 0)) w fun t_0 w =>
  cd t_0 (
    K (.int .i64 32) w) <|
  pvv prog (Op.unary .neg x_p0) w fun t_1 w =>
  pvv prog (binOp .and 101 x_p0 t_1) w fun t_2 w =>
  pvv prog (binOp .mul 101 t_2 (.int .u32 125613361)) w fun t_3 w =>
  pvv prog (binOp .shr 101 t_3 (.int .u64 27)) w fun t_4 w =>
  pvv prog (Instr.indexAt 35 (.pointer (some ⟨5, 0, none⟩)) t_4) w fun t_5 w =>
  ldv prog (Instr.loadAt 5 t_5) w fun t_6 w =>
  pvv prog (convert 5 3 t_6) w fun t_7 w =>
  K t_7 w
theorem B109_eq (x_p0 : Value) (w : World) (K : Value → World → Prop) : denFn prog Tryd.f109 T109 [x_p0] w K = B109 x_p0 w K := by kernel_rfl
theorem c109 {x_p0 : Value} {w : World} {K : Value → World → Prop} (h : B109 x_p0 w K) : Calls prog 109 #[x_p0] w (Ret K) :=
  denFn_calls Tryd.func109 T109_ok (Eq.mpr (B109_eq x_p0 w K) h)

-- 46 holdfast/hash.Chain
def T46 : Ann := (.seq .none (.seq .none .none))
theorem T46_ok : chkFn prog Tryd.f46 T46 = true := by kernel_rfl
def B46 (h_p0 b_p1 : Value) (w : World) (K : Value → World → Prop) : Prop :=
  efv prog (Instr.box 36 h_p0) w fun h_0 w =>
  efv prog (Instr.alloc 36 true (.tuple #[])) w fun t_1 w =>
  pvv prog (Instr.sliceAt 36 h_0 none none none) w fun t_2 w =>
  ef prog (oBi .append #[72, 72] 72 #[false, false] #[t_2, b_p1]) w fun t_3 w =>
  Calls prog 57 #[t_3] w (Ret fun t_4 w =>
  efu prog (Instr.storeAt 36 t_1 t_4) w fun u_5 w =>
  ∃ r_6, (do loadVar 36 (← asAddr t_1)).run prog w = .ok r_6 w ∧ K r_6 w)
theorem B46_eq (h_p0 b_p1 : Value) (w : World) (K : Value → World → Prop) : denFn prog Tryd.f46 T46 [h_p0, b_p1] w K = B46 h_p0 b_p1 w K := by kernel_rfl
theorem c46 {h_p0 b_p1 : Value} {w : World} {K : Value → World → Prop} (h : B46 h_p0 b_p1 w K) : Calls prog 46 #[h_p0, b_p1] w (Ret K) :=
  denFn_calls Tryd.func46 T46_ok (Eq.mpr (B46_eq h_p0 b_p1 w K) h)

-- 22 (*holdfast/holdfastref14.Chain).Fork
def T22 : Ann := (.seq .none (.seq (.seq .none (.seq (.seq .none .none) .none)) (.seq .none (.seq .none .none))))
theorem T22_ok : chkFn prog Tryd.f22 T22 = true := by kernel_rfl
def B22 (c_p0 : Value) (w : World) (K : Value → World → Prop) : Prop :=
  pvv prog (oEq .eql 25 (.tmp 4) (.const (.pointer none)) c_p0 (.pointer none)) w fun t_0 w =>
  cd t_0 (
    K (.pointer none) w) <|
  pv prog (oNil c_p0) w fun t_1 w =>
  ldv prog (Instr.loadAt 61 t_1) w fun t_2 w =>
  efv prog (Instr.alloc 61 true (.tuple #[])) w fun f_3 w =>
  efu prog (Instr.storeAt 61 f_3 t_2) w fun u_4 w =>
  K f_3 w
theorem B22_eq (c_p0 : Value) (w : World) (K : Value → World → Prop) : denFn prog Tryd.f22 T22 [c_p0] w K = B22 c_p0 w K := by kernel_rfl
theorem c22 {c_p0 : Value} {w : World} {K : Value → World → Prop} (h : B22 c_p0 w K) : Calls prog 22 #[c_p0] w (Ret K) :=
  denFn_calls Tryd.func22 T22_ok (Eq.mpr (B22_eq c_p0 w K) h)

-- 13 (*holdfast/audit.Chain).Events
def T13 : Ann := (.seq .none (.seq (.seq .none (.seq (.seq .none .none) .none)) (.seq .none .none)))
theorem T13_ok : chkFn prog Tryd.f13 T13 = true := by kernel_rfl
def B13 (c_p0 : Value) (w : World) (K : Value → World → Prop) : Prop :=
  pvv prog (oEq .eql 23 (.tmp 3) (.const (.pointer none)) c_p0 (.pointer none)) w fun t_0 w =>
  cd t_0 (
    K (.slice none 0 0) w) <|
  pv prog (oNil c_p0) w fun t_1 w =>
  pvv prog (Instr.fieldAt 59 t_1 4) w fun t_2 w =>
  ldv prog (Instr.loadAt 31 t_2) w fun t_3 w =>
  Calls prog 30 #[t_3] w (Ret fun t_4 w =>
  K t_4 w)
theorem B13_eq (c_p0 : Value) (w : World) (K : Value → World → Prop) : denFn prog Tryd.f13 T13 [c_p0] w K = B13 c_p0 w K := by kernel_rfl
theorem c13 {c_p0 : Value} {w : World} {K : Value → World → Prop} (h : B13 c_p0 w K) : Calls prog 13 #[c_p0] w (Ret K) :=
  denFn_calls Tryd.func13 T13_ok (Eq.mpr (B13_eq c_p0 w K) h)

-- 101 internal/strconv.isPowerOfTwo
def T101 : Ann := (.seq .none (.seq .none .none))
theorem T101_ok : chkFn prog Tryd.f101 T101 = true := by kernel_rfl
def B101 (x_p0 : Value) (w : World) (K : Value → World → Prop) : Prop :=
  pvv prog (binOp .sub 3 x_p0 (.int .i64 1)) w fun t_0 w =>
  pvv prog (binOp .and 3 x_p0 t_0) w fun t_1 w =>
  pvv prog (oEq .eql 3 (.tmp 6) (.const (.int .i64 0)) t_1 (.int .i64 0)) w fun t_2 w =>
  K t_2 w
theorem B101_eq (x_p0 : Value) (w : World) (K : Value → World → Prop) : denFn prog Tryd.f101 T101 [x_p0] w K = B101 x_p0 w K := by kernel_rfl
theorem c101 {x_p0 : Value} {w : World} {K : Value → World → Prop} (h : B101 x_p0 w K) : Calls prog 101 #[x_p0] w (Ret K) :=
  denFn_calls Tryd.func101 T101_ok (Eq.mpr (B101_eq x_p0 w K) h)

-- 39 holdfast/audit.number
def T39 : Ann := (.seq .none (.seq .none (.seq .none .none)))
theorem T39_ok : chkFn prog Tryd.f39 T39 = true := by kernel_rfl
def B39 (n_p0 : Value) (w : World) (K : Value → World → Prop) : Prop :=
  Calls prog 52 #[n_p0] w (Ret fun t_0 w =>
  pvv prog (Instr.extract t_0 0) w fun t_1 w =>
  pvv prog (Instr.extract t_0 1) w fun t_2 w =>
  K t_1 w)
theorem B39_eq (n_p0 : Value) (w : World) (K : Value → World → Prop) : denFn prog Tryd.f39 T39 [n_p0] w K = B39 n_p0 w K := by kernel_rfl
theorem c39 {n_p0 : Value} {w : World} {K : Value → World → Prop} (h : B39 n_p0 w K) : Calls prog 39 #[n_p0] w (Ret K) :=
  denFn_calls Tryd.func39 T39_ok (Eq.mpr (B39_eq n_p0 w K) h)

-- 59 holdfast/holdfastref07.Bytes
def T59 : Ann := (.seq .none (.seq .none .none))
theorem T59_ok : chkFn prog Tryd.f59 T59 = true := by kernel_rfl
def B59 (h_p0 : Value) (w : World) (K : Value → World → Prop) : Prop :=
  efv prog (Instr.box 36 h_p0) w fun h_0 w =>
  ldv prog (Instr.loadAt 36 h_0) w fun t_1 w =>
  Calls prog 54 #[t_1] w (Ret fun t_2 w =>
  K t_2 w)
theorem B59_eq (h_p0 : Value) (w : World) (K : Value → World → Prop) : denFn prog Tryd.f59 T59 [h_p0] w K = B59 h_p0 w K := by kernel_rfl
theorem c59 {h_p0 : Value} {w : World} {K : Value → World → Prop} (h : B59 h_p0 w K) : Calls prog 59 #[h_p0] w (Ret K) :=
  denFn_calls Tryd.func59 T59_ok (Eq.mpr (B59_eq h_p0 w K) h)

-- 62 strings.HasPrefix
def T62 : Ann := (.seq .none (.seq .none .none))
theorem T62_ok : chkFn prog Tryd.f62 T62 = true := by kernel_rfl
def B62 (s_p0 prefix_p1 : Value) (w : World) (K : Value → World → Prop) : Prop :=
  Calls prog 73 #[s_p0, prefix_p1] w (Ret fun t_0 w =>
  K t_0 w)
theorem B62_eq (s_p0 prefix_p1 : Value) (w : World) (K : Value → World → Prop) : denFn prog Tryd.f62 T62 [s_p0, prefix_p1] w K = B62 s_p0 prefix_p1 w K := by kernel_rfl
theorem c62 {s_p0 prefix_p1 : Value} {w : World} {K : Value → World → Prop} (h : B62 s_p0 prefix_p1 w K) : Calls prog 62 #[s_p0, prefix_p1] w (Ret K) :=
  denFn_calls Tryd.func62 T62_ok (Eq.mpr (B62_eq s_p0 prefix_p1 w K) h)

-- 32 (*holdfast/audit.Chain).links
def T32 : Ann := (.seq .none (.seq .none .none))
theorem T32_ok : chkFn prog Tryd.f32 T32 = true := by kernel_rfl
def B32 (c_p0 : Value) (w : World) (K : Value → World → Prop) : Prop :=
  efv prog (Instr.box 23 c_p0) w fun c_0 w =>
  pvv prog (Instr.makeFunc (.func 47) #[] #[c_0]) w fun t_1 w =>
  K t_1 w
theorem B32_eq (c_p0 : Value) (w : World) (K : Value → World → Prop) : denFn prog Tryd.f32 T32 [c_p0] w K = B32 c_p0 w K := by kernel_rfl
theorem c32 {c_p0 : Value} {w : World} {K : Value → World → Prop} (h : B32 c_p0 w K) : Calls prog 32 #[c_p0] w (Ret K) :=
  denFn_calls Tryd.func32 T32_ok (Eq.mpr (B32_eq c_p0 w K) h)

-- 108 strconv.Itoa
def T108 : Ann := (.seq .none (.seq .none .none))
theorem T108_ok : chkFn prog Tryd.f108 T108 = true := by kernel_rfl
def B108 (i_p0 : Value) (w : World) (K : Value → World → Prop) : Prop :=
  Calls prog 115 #[i_p0] w (Ret fun t_0 w =>
  K t_0 w)
theorem B108_eq (i_p0 : Value) (w : World) (K : Value → World → Prop) : denFn prog Tryd.f108 T108 [i_p0] w K = B108 i_p0 w K := by kernel_rfl
theorem c108 {i_p0 : Value} {w : World} {K : Value → World → Prop} (h : B108 i_p0 w K) : Calls prog 108 #[i_p0] w (Ret K) :=
  denFn_calls Tryd.func108 T108_ok (Eq.mpr (B108_eq i_p0 w K) h)


end Go.Proofs.YtjeiojibnmfibaaDoor
