import Derived.Test.YtjeiojibnmfibaaGreatDoorPI
set_option linter.all false
set_option maxRecDepth 100000
namespace Go.Proofs.YtjeiojibnmfibaaGreatDoor
open Go Hold
-- 44 holdfast/holdfastref07.Sum
def T44 : Ann := (.seq .none (.seq .none (.seq .none (.seq .none (.seq .none (.seq (.block (.loop 545460846624 [5] (.seq (.seq .none (.seq .none .none)) (.block .none)))) (.seq .none (.seq (.seq .none (.block (.loop 72048797944905888 [5, 7] (.seq (.seq .none (.seq .none .none)) (.seq (.block .none) .none))))) (.seq (.seq .none (.block (.loop 1897137590064188545819787018382342682267975428761855001222473056313591121991171840 [8] (.seq (.seq .none (.seq .none .none)) (.seq (.block (.seq .none (.seq (.seq .none (.block (.loop 1237940030062008238044351488 [10] (.seq (.seq .none (.seq .none .none)) (.seq (.block (.seq .none (.block (.loop 1237939891711427685222713344 [11] (.seq (.seq .none (.seq .none .none)) (.seq (.block (.draw [.op 0 .pure, .op 1 .pure, .op 2 .pure, .op 3 .pure, .op 4 .pure, .op 7 .pure, .op 8 .pure, .op 9 .pure, .op 10 .pure, .op 11 .pure, .op 12 .pure, .op 13 .pure, .op 14 .pure, .op 5 .load, .op 6 .pure, .op 15 .load, .op 16 .pure, .op 17 .pure, .op 18 .pure, .op 19 .eff])) .none)))))) .none))))) (.seq (.seq .none (.block (.loop 87112285931759008706584614122257763037184 [12] (.seq (.seq .none (.seq .none .none)) (.seq (.block (.seq (.draw [.op 0 .pure, .op 1 .pure, .op 2 .pure, .op 3 .pure, .op 5 .pure, .op 6 .pure, .op 7 .pure, .op 8 .pure, .op 4 .load, .op 10 .pure, .op 9 .load, .op 11 .pure]) (.draw [.op 0 .pure, .op 1 .pure, .op 2 .pure, .op 3 .pure, .op 4 .pure, .op 5 .pure, .op 7 .pure, .op 9 .pure, .op 12 .pure, .op 13 .pure, .op 16 .pure, .op 17 .pure, .op 18 .pure, .op 19 .pure, .op 22 .pure, .op 24 .pure, .op 27 .pure, .op 28 .pure, .op 6 .load, .op 20 .load, .op 8 .eff, .op 10 .eff, .op 11 .pure, .op 14 .pure, .op 15 .pure, .op 21 .pure, .op 23 .eff, .op 25 .eff, .op 26 .pure, .op 29 .pure, .op 30 .pure, .op 31 .pure, .op 32 .eff]))) .none))))) (.seq .none (.seq .none (.seq (.seq .none (.block (.loop 115792089237316195423570985008687907156371697211558590866466387987651836739584 [15, 16] (.seq (.seq .none (.seq .none .none)) (.seq (.block (.seq (.draw [.op 0 .pure, .op 1 .pure, .op 4 .pure, .op 5 .pure, .op 9 .pure, .op 10 .pure, .op 2 .load, .op 6 .load, .op 11 .load, .op 3 .eff, .op 7 .eff, .op 8 .pure, .op 12 .eff, .op 13 .pure, .op 14 .pure]) (.seq (.draw [.op 0 .pure, .op 1 .pure, .op 3 .pure, .op 4 .pure, .op 7 .pure, .op 8 .pure, .op 11 .pure, .op 12 .pure, .op 2 .load, .op 5 .load, .op 6 .pure, .op 9 .load, .op 10 .pure, .op 13 .load, .op 14 .pure, .op 15 .pure, .op 16 .pure]) (.seq (.draw [.op 0 .pure, .op 1 .pure, .op 3 .pure, .op 5 .pure, .op 7 .pure, .op 8 .pure, .op 9 .pure, .op 12 .pure, .op 13 .pure, .op 14 .pure, .op 2 .load, .op 4 .pure, .op 6 .pure, .op 10 .load, .op 11 .pure, .op 15 .load, .op 16 .pure, .op 17 .pure]) (.seq (.draw [.op 0 .pure, .op 1 .pure, .op 4 .pure, .op 5 .pure, .op 9 .pure, .op 10 .pure, .op 2 .load, .op 6 .load, .op 11 .load, .op 3 .eff, .op 7 .eff, .op 8 .pure, .op 12 .eff, .op 13 .pure, .op 14 .pure]) (.seq (.draw [.op 0 .pure, .op 1 .pure, .op 3 .pure, .op 4 .pure, .op 7 .pure, .op 8 .pure, .op 10 .pure, .op 11 .pure, .op 15 .pure, .op 16 .pure, .op 18 .pure, .op 19 .pure, .op 2 .load, .op 5 .load, .op 6 .pure, .op 9 .load, .op 12 .load, .op 13 .pure, .op 14 .pure, .op 17 .load, .op 20 .load, .op 21 .pure, .op 22 .pure, .op 23 .pure]) (.draw [.op 0 .pure, .op 1 .pure, .op 2 .pure, .op 3 .pure, .op 4 .pure, .op 5 .pure, .op 6 .pure, .op 8 .pure, .op 9 .pure, .op 11 .pure, .op 12 .pure, .op 14 .pure, .op 15 .pure, .op 17 .pure, .op 19 .pure, .op 20 .pure, .op 22 .pure, .op 23 .pure, .op 25 .pure, .op 26 .pure, .op 7 .load, .op 10 .load, .op 13 .load, .op 16 .load, .op 18 .pure, .op 21 .load, .op 24 .load, .op 27 .load, .op 28 .eff, .op 29 .pure]))))))) .none))))) (.seq .none (.block (.loop 1897021797974951229624363447397333994360122158777189360658433598801640802895265792 [22] (.seq (.seq .none (.seq .none .none)) (.seq (.block (.draw [.op 0 .pure, .op 1 .pure, .op 2 .pure, .op 4 .pure, .op 5 .pure, .op 6 .pure, .op 3 .load, .op 7 .load, .op 8 .pure, .op 9 .pure, .op 10 .eff])) .none)))))))))))) .none))))) (.seq .none (.seq (.seq .none (.block (.loop 248659721067303256889145304286392037707545807423245096865230765973523362857550683832320 [24] (.seq (.seq .none (.seq .none .none)) (.seq (.block .none) .none))))) (.seq .none .none))))))))))))
theorem T44_ok : chkFn prog Tryz.f44 T44 = true := by kernel_rfl
def B44 (b_p0 : Value) (w : World) (K : Value → World → Prop) : Prop :=
  efv prog (Instr.alloc 44 true (.tuple #[])) w fun t_0 w =>
  efv prog (Instr.buildSlice 101 8 #[(0, (.int .u32 1779033703)), (1, (.int .u32 3144134277)), (2, (.int .u32 1013904242)), (3, (.int .u32 2773480762)), (4, (.int .u32 1359893119)), (5, (.int .u32 2600822924)), (6, (.int .u32 528734635)), (7, (.int .u32 1541459225))]) w fun t_1 w =>
  Calls prog 55 #[] w (Ret fun t_2 w =>
  ef prog (oBi .append #[74, 74] 74 #[false, false] #[(.slice none 0 0), b_p0]) w fun t_3 w =>
  efv prog (Instr.buildSlice 74 1 #[(0, (.int .u8 128))]) w fun t_4 w =>
  ef prog (oBi .append #[74, 74] 74 #[false, false] #[t_3, t_4]) w fun t_5 w =>
  lp (fun σ w again_7 => pop σ fun m_6 σ => fin σ <|
    pv prog (oBi .len #[74] 3 #[false] #[m_6]) w fun t_8 w =>
    pvv prog (binOp .rem 3 t_8 (.int .i64 64)) w fun t_9 w =>
    pvv prog (oEq .neq 3 (.tmp 34) (.const (.int .i64 56)) t_9 (.int .i64 56)) w fun t_10 w =>
    cd t_10 (
      efv prog (Instr.buildSlice 74 1 #[(0, (.int .u8 0))]) w fun t_11 w =>
      ef prog (oBi .append #[74, 74] 74 #[false, false] #[m_6, t_11]) w fun t_12 w =>
      again_7 [t_12] w) <|
    pv prog (oBi .len #[74] 3 #[false] #[b_p0]) w fun t_13 w =>
    pvv prog (convert 3 94 t_13) w fun t_14 w =>
    pvv prog (binOp .mul 94 t_14 (.int .u64 8)) w fun t_15 w =>
    lp (fun σ w again_18 => pop σ fun m_16 σ => pop σ fun i_17 σ => fin σ <|
      pvv prog (binOp .lss 3 i_17 (.int .i64 8)) w fun t_19 w =>
      cd t_19 (
        pvv prog (binOp .mul 3 (.int .i64 8) i_17) w fun t_20 w =>
        pvv prog (binOp .sub 3 (.int .i64 56) t_20) w fun t_21 w =>
        pvv prog (binOp .shr 94 t_15 t_21) w fun t_22 w =>
        pvv prog (convert 94 5 t_22) w fun t_23 w =>
        efv prog (Instr.buildSlice 74 1 #[(0, t_23)]) w fun t_24 w =>
        ef prog (oBi .append #[74, 74] 74 #[false, false] #[m_16, t_24]) w fun t_25 w =>
        pvv prog (binOp .add 3 i_17 (.int .i64 1)) w fun t_26 w =>
        again_18 [t_25, t_26] w) <|
      lp (fun σ w again_28 => pop σ fun at_27 σ => fin σ <|
        pv prog (oBi .len #[74] 3 #[false] #[m_16]) w fun t_29 w =>
        pvv prog (binOp .lss 3 at_27 t_29) w fun t_30 w =>
        cd t_30 (
          efv prog (Instr.makeSlice 101 (.int .i64 64) (.int .i64 64)) w fun t_31 w =>
          lp (fun σ w again_33 => pop σ fun i_32 σ => fin σ <|
            pvv prog (binOp .lss 3 i_32 (.int .i64 16)) w fun t_34 w =>
            cd t_34 (
              lp (fun σ w again_36 => pop σ fun j_35 σ => fin σ <|
                pvv prog (binOp .lss 3 j_35 (.int .i64 4)) w fun t_37 w =>
                cd t_37 (
                  dr w fun w =>
                  pvv prog (Instr.indexAt 101 t_31 i_32) w fun t_38 w =>
                  pvv prog (binOp .mul 3 (.int .i64 4) i_32) w fun t_39 w =>
                  pvv prog (binOp .add 3 at_27 t_39) w fun t_40 w =>
                  pvv prog (binOp .add 3 t_40 j_35) w fun t_41 w =>
                  pvv prog (Instr.indexAt 74 m_16 t_41) w fun t_42 w =>
                  bindS (vN (Instr.loadAt 100 t_38)) fun m_44 => ldv prog (Instr.loadAt 100 t_38) w fun t_43 w =>
                  pvv prog (binOp .shl 100 t_43 (.int .u64 8)) w fun t_45 w =>
                  bindS (vN (Instr.loadAt 5 t_42)) fun m_47 => ldv prog (Instr.loadAt 5 t_42) w fun t_46 w =>
                  pvv prog (convert 5 100 t_46) w fun t_48 w =>
                  pvv prog (binOp .or 100 t_45 t_48) w fun t_49 w =>
                  pvv prog (Instr.indexAt 101 t_31 i_32) w fun t_50 w =>
                  efu prog (Instr.storeAt 100 t_50 t_49) w fun u_51 w =>
                  pvv prog (binOp .add 3 j_35 (.int .i64 1)) w fun t_52 w =>
                  again_36 [t_52] w) <|
                pvv prog (binOp .add 3 i_32 (.int .i64 1)) w fun t_54 w =>
                again_33 [t_54] w) [(.int .i64 0)] w) <|
            lp (fun σ w again_56 => pop σ fun i_55 σ => fin σ <|
              pvv prog (binOp .lss 3 i_55 (.int .i64 64)) w fun t_57 w =>
              cd t_57 (
                dr w fun w =>
                pvv prog (binOp .sub 3 i_55 (.int .i64 15)) w fun t_58 w =>
                pvv prog (Instr.indexAt 101 t_31 t_58) w fun t_59 w =>
                pvv prog (binOp .sub 3 i_55 (.int .i64 2)) w fun t_60 w =>
                pvv prog (Instr.indexAt 101 t_31 t_60) w fun t_61 w =>
                bindS (vN (Instr.loadAt 100 t_59)) fun m_63 => ldv prog (Instr.loadAt 100 t_59) w fun t_62 w =>
                bindS (vN (Instr.loadAt 100 t_61)) fun m_65 => ldv prog (Instr.loadAt 100 t_61) w fun t_64 w =>
                dr w fun w =>
                pvv prog (binOp .sub 3 i_55 (.int .i64 16)) w fun t_66 w =>
                pvv prog (Instr.indexAt 101 t_31 t_66) w fun t_67 w =>
                pvv prog (binOp .shr 100 t_62 (.int .u64 3)) w fun t_68 w =>
                pvv prog (binOp .sub 3 i_55 (.int .i64 7)) w fun t_69 w =>
                pvv prog (Instr.indexAt 101 t_31 t_69) w fun t_70 w =>
                pvv prog (binOp .shr 100 t_64 (.int .u64 10)) w fun t_71 w =>
                bindS (vN (Instr.loadAt 100 t_67)) fun m_73 => ldv prog (Instr.loadAt 100 t_67) w fun t_72 w =>
                bindS (vN (Instr.loadAt 100 t_70)) fun m_75 => ldv prog (Instr.loadAt 100 t_70) w fun t_74 w =>
                Calls prog 56 #[t_62, (.int .i64 7)] w (Ret fun t_76 w => stay prog none m_75 t_74 w <| stay prog none m_73 t_72 w <| 
                Calls prog 56 #[t_62, (.int .i64 18)] w (Ret fun t_77 w => stay prog none m_75 t_74 w <| stay prog none m_73 t_72 w <| 
                pvv prog (binOp .xor 100 t_76 t_77) w fun t_78 w =>
                pvv prog (binOp .xor 100 t_78 t_68) w fun t_79 w =>
                pvv prog (binOp .add 100 t_72 t_79) w fun t_80 w =>
                pvv prog (binOp .add 100 t_80 t_74) w fun t_81 w =>
                Calls prog 56 #[t_64, (.int .i64 17)] w (Ret fun t_82 w => stay prog none m_75 t_74 w <| stay prog none m_73 t_72 w <| 
                Calls prog 56 #[t_64, (.int .i64 19)] w (Ret fun t_83 w => stay prog none m_75 t_74 w <| stay prog none m_73 t_72 w <| 
                pvv prog (binOp .xor 100 t_82 t_83) w fun t_84 w =>
                pvv prog (binOp .xor 100 t_84 t_71) w fun t_85 w =>
                pvv prog (binOp .add 100 t_81 t_85) w fun t_86 w =>
                pvv prog (Instr.indexAt 101 t_31 i_55) w fun t_87 w =>
                efu prog (Instr.storeAt 100 t_87 t_86) w fun u_88 w =>
                pvv prog (binOp .add 3 i_55 (.int .i64 1)) w fun t_89 w =>
                again_56 [t_89] w))))) <|
              ef prog (oBi .append #[101, 101] 101 #[false, false] #[(.slice none 0 0), t_1]) w fun t_95 w =>
              lp (fun σ w again_98 => pop σ fun v_96 σ => pop σ fun i_97 σ => fin σ <|
                pvv prog (binOp .lss 3 i_97 (.int .i64 64)) w fun t_99 w =>
                cd t_99 (
                  dr w fun w =>
                  pvv prog (Instr.indexAt 101 v_96 (.int .i64 4)) w fun t_100 w =>
                  pvv prog (Instr.indexAt 101 v_96 (.int .i64 4)) w fun t_101 w =>
                  pvv prog (Instr.indexAt 101 v_96 (.int .i64 4)) w fun t_102 w =>
                  bindS (vN (Instr.loadAt 100 t_100)) fun m_104 => ldv prog (Instr.loadAt 100 t_100) w fun t_103 w =>
                  bindS (vN (Instr.loadAt 100 t_101)) fun m_106 => ldv prog (Instr.loadAt 100 t_101) w fun t_105 w =>
                  bindS (vN (Instr.loadAt 100 t_102)) fun m_108 => ldv prog (Instr.loadAt 100 t_102) w fun t_107 w =>
                  Calls prog 56 #[t_103, (.int .i64 6)] w (Ret fun t_109 w => stay prog none m_108 t_107 w <| stay prog none m_106 t_105 w <| 
                  Calls prog 56 #[t_105, (.int .i64 11)] w (Ret fun t_110 w => stay prog none m_108 t_107 w <| stay prog none m_104 t_103 w <| 
                  pvv prog (binOp .xor 100 t_109 t_110) w fun t_111 w =>
                  Calls prog 56 #[t_107, (.int .i64 25)] w (Ret fun t_112 w => stay prog none m_106 t_105 w <| stay prog none m_104 t_103 w <| 
                  pvv prog (binOp .xor 100 t_111 t_112) w fun t_113 w =>
                  dr w fun w =>
                  pvv prog (Instr.indexAt 101 v_96 (.int .i64 4)) w fun t_114 w =>
                  pvv prog (Instr.indexAt 101 v_96 (.int .i64 5)) w fun t_115 w =>
                  pvv prog (Instr.indexAt 101 v_96 (.int .i64 4)) w fun t_116 w =>
                  pvv prog (Instr.indexAt 101 v_96 (.int .i64 6)) w fun t_117 w =>
                  bindS (vN (Instr.loadAt 100 t_114)) fun m_119 => ldv prog (Instr.loadAt 100 t_114) w fun t_118 w =>
                  bindS (vN (Instr.loadAt 100 t_115)) fun m_121 => ldv prog (Instr.loadAt 100 t_115) w fun t_120 w =>
                  pvv prog (binOp .and 100 t_118 t_120) w fun t_122 w =>
                  bindS (vN (Instr.loadAt 100 t_116)) fun m_124 => ldv prog (Instr.loadAt 100 t_116) w fun t_123 w =>
                  pvv prog (Op.unary .xor t_123) w fun t_125 w =>
                  bindS (vN (Instr.loadAt 100 t_117)) fun m_127 => ldv prog (Instr.loadAt 100 t_117) w fun t_126 w =>
                  pvv prog (binOp .and 100 t_125 t_126) w fun t_128 w =>
                  pvv prog (binOp .xor 100 t_122 t_128) w fun t_129 w =>
                  dr w fun w =>
                  pvv prog (Instr.indexAt 101 v_96 (.int .i64 7)) w fun t_130 w =>
                  pvv prog (Instr.indexAt 101 t_2 i_97) w fun t_131 w =>
                  pvv prog (Instr.indexAt 101 t_31 i_97) w fun t_132 w =>
                  bindS (vN (Instr.loadAt 100 t_130)) fun m_134 => ldv prog (Instr.loadAt 100 t_130) w fun t_133 w =>
                  pvv prog (binOp .add 100 t_133 t_113) w fun t_135 w =>
                  pvv prog (binOp .add 100 t_135 t_129) w fun t_136 w =>
                  bindS (vN (Instr.loadAt 100 t_131)) fun m_138 => ldv prog (Instr.loadAt 100 t_131) w fun t_137 w =>
                  pvv prog (binOp .add 100 t_136 t_137) w fun t_139 w =>
                  bindS (vN (Instr.loadAt 100 t_132)) fun m_141 => ldv prog (Instr.loadAt 100 t_132) w fun t_140 w =>
                  pvv prog (binOp .add 100 t_139 t_140) w fun t_142 w =>
                  dr w fun w =>
                  pvv prog (Instr.indexAt 101 v_96 (.int .i64 0)) w fun t_143 w =>
                  pvv prog (Instr.indexAt 101 v_96 (.int .i64 0)) w fun t_144 w =>
                  pvv prog (Instr.indexAt 101 v_96 (.int .i64 0)) w fun t_145 w =>
                  bindS (vN (Instr.loadAt 100 t_143)) fun m_147 => ldv prog (Instr.loadAt 100 t_143) w fun t_146 w =>
                  bindS (vN (Instr.loadAt 100 t_144)) fun m_149 => ldv prog (Instr.loadAt 100 t_144) w fun t_148 w =>
                  bindS (vN (Instr.loadAt 100 t_145)) fun m_151 => ldv prog (Instr.loadAt 100 t_145) w fun t_150 w =>
                  Calls prog 56 #[t_146, (.int .i64 2)] w (Ret fun t_152 w => stay prog none m_151 t_150 w <| stay prog none m_149 t_148 w <| 
                  Calls prog 56 #[t_148, (.int .i64 13)] w (Ret fun t_153 w => stay prog none m_151 t_150 w <| stay prog none m_147 t_146 w <| 
                  pvv prog (binOp .xor 100 t_152 t_153) w fun t_154 w =>
                  Calls prog 56 #[t_150, (.int .i64 22)] w (Ret fun t_155 w => stay prog none m_149 t_148 w <| stay prog none m_147 t_146 w <| 
                  pvv prog (binOp .xor 100 t_154 t_155) w fun t_156 w =>
                  dr w fun w =>
                  pvv prog (Instr.indexAt 101 v_96 (.int .i64 0)) w fun t_157 w =>
                  pvv prog (Instr.indexAt 101 v_96 (.int .i64 1)) w fun t_158 w =>
                  pvv prog (Instr.indexAt 101 v_96 (.int .i64 0)) w fun t_159 w =>
                  pvv prog (Instr.indexAt 101 v_96 (.int .i64 2)) w fun t_160 w =>
                  pvv prog (Instr.indexAt 101 v_96 (.int .i64 1)) w fun t_161 w =>
                  pvv prog (Instr.indexAt 101 v_96 (.int .i64 2)) w fun t_162 w =>
                  bindS (vN (Instr.loadAt 100 t_157)) fun m_164 => ldv prog (Instr.loadAt 100 t_157) w fun t_163 w =>
                  bindS (vN (Instr.loadAt 100 t_158)) fun m_166 => ldv prog (Instr.loadAt 100 t_158) w fun t_165 w =>
                  pvv prog (binOp .and 100 t_163 t_165) w fun t_167 w =>
                  bindS (vN (Instr.loadAt 100 t_159)) fun m_169 => ldv prog (Instr.loadAt 100 t_159) w fun t_168 w =>
                  bindS (vN (Instr.loadAt 100 t_160)) fun m_171 => ldv prog (Instr.loadAt 100 t_160) w fun t_170 w =>
                  pvv prog (binOp .and 100 t_168 t_170) w fun t_172 w =>
                  pvv prog (binOp .xor 100 t_167 t_172) w fun t_173 w =>
                  bindS (vN (Instr.loadAt 100 t_161)) fun m_175 => ldv prog (Instr.loadAt 100 t_161) w fun t_174 w =>
                  bindS (vN (Instr.loadAt 100 t_162)) fun m_177 => ldv prog (Instr.loadAt 100 t_162) w fun t_176 w =>
                  pvv prog (binOp .and 100 t_174 t_176) w fun t_178 w =>
                  pvv prog (binOp .xor 100 t_173 t_178) w fun t_179 w =>
                  dr w fun w =>
                  pvv prog (binOp .add 100 t_142 t_156) w fun t_180 w =>
                  pvv prog (binOp .add 100 t_180 t_179) w fun t_181 w =>
                  pvv prog (Instr.indexAt 101 v_96 (.int .i64 0)) w fun t_182 w =>
                  pvv prog (Instr.indexAt 101 v_96 (.int .i64 1)) w fun t_183 w =>
                  pvv prog (Instr.indexAt 101 v_96 (.int .i64 2)) w fun t_184 w =>
                  pvv prog (Instr.indexAt 101 v_96 (.int .i64 3)) w fun t_185 w =>
                  pvv prog (Instr.indexAt 101 v_96 (.int .i64 4)) w fun t_186 w =>
                  pvv prog (Instr.indexAt 101 v_96 (.int .i64 5)) w fun t_187 w =>
                  pvv prog (Instr.indexAt 101 v_96 (.int .i64 6)) w fun t_188 w =>
                  bindS (vN (Instr.loadAt 100 t_182)) fun m_190 => ldv prog (Instr.loadAt 100 t_182) w fun t_189 w =>
                  bindS (vN (Instr.loadAt 100 t_183)) fun m_192 => ldv prog (Instr.loadAt 100 t_183) w fun t_191 w =>
                  bindS (vN (Instr.loadAt 100 t_184)) fun m_194 => ldv prog (Instr.loadAt 100 t_184) w fun t_193 w =>
                  bindS (vN (Instr.loadAt 100 t_185)) fun m_196 => ldv prog (Instr.loadAt 100 t_185) w fun t_195 w =>
                  pvv prog (binOp .add 100 t_195 t_142) w fun t_197 w =>
                  bindS (vN (Instr.loadAt 100 t_186)) fun m_199 => ldv prog (Instr.loadAt 100 t_186) w fun t_198 w =>
                  bindS (vN (Instr.loadAt 100 t_187)) fun m_201 => ldv prog (Instr.loadAt 100 t_187) w fun t_200 w =>
                  bindS (vN (Instr.loadAt 100 t_188)) fun m_203 => ldv prog (Instr.loadAt 100 t_188) w fun t_202 w =>
                  efv prog (Instr.buildSlice 101 8 #[(0, t_181), (1, t_189), (2, t_191), (3, t_193), (4, t_197), (5, t_198), (6, t_200), (7, t_202)]) w fun t_204 w => stay prog none m_196 t_195 w <| 
                  pvv prog (binOp .add 3 i_97 (.int .i64 1)) w fun t_205 w =>
                  again_98 [t_204, t_205] w))))))) <|
                lp (fun σ w again_214 => pop σ fun i_213 σ => fin σ <|
                  pvv prog (binOp .lss 3 i_213 (.int .i64 8)) w fun t_215 w =>
                  cd t_215 (
                    dr w fun w =>
                    pvv prog (Instr.indexAt 101 t_1 i_213) w fun t_216 w =>
                    pvv prog (Instr.indexAt 101 v_96 i_213) w fun t_217 w =>
                    bindS (vN (Instr.loadAt 100 t_216)) fun m_219 => ldv prog (Instr.loadAt 100 t_216) w fun t_218 w =>
                    bindS (vN (Instr.loadAt 100 t_217)) fun m_221 => ldv prog (Instr.loadAt 100 t_217) w fun t_220 w =>
                    pvv prog (binOp .add 100 t_218 t_220) w fun t_222 w =>
                    pvv prog (Instr.indexAt 101 t_1 i_213) w fun t_223 w =>
                    efu prog (Instr.storeAt 100 t_223 t_222) w fun u_224 w =>
                    pvv prog (binOp .add 3 i_213 (.int .i64 1)) w fun t_225 w =>
                    again_214 [t_225] w) <|
                  pvv prog (binOp .add 3 at_27 (.int .i64 64)) w fun t_227 w =>
                  again_28 [t_227] w) [(.int .i64 0)] w) [t_95, (.int .i64 0)] w) [(.int .i64 16)] w) [(.int .i64 0)] w) <|
        efv prog (Instr.alloc 44 true (.tuple #[])) w fun out_228 w =>
        lp (fun σ w again_230 => pop σ fun i_229 σ => fin σ <|
          pvv prog (binOp .lss 3 i_229 (.int .i64 32)) w fun t_231 w =>
          cd t_231 (
            pvv prog (binOp .quo 3 i_229 (.int .i64 4)) w fun t_232 w =>
            pvv prog (Instr.indexAt 101 t_1 t_232) w fun t_233 w =>
            ldv prog (Instr.loadAt 100 t_233) w fun t_234 w =>
            pvv prog (binOp .rem 3 i_229 (.int .i64 4)) w fun t_235 w =>
            pvv prog (binOp .mul 3 (.int .i64 8) t_235) w fun t_236 w =>
            pvv prog (binOp .sub 3 (.int .i64 24) t_236) w fun t_237 w =>
            pvv prog (binOp .shr 100 t_234 t_237) w fun t_238 w =>
            pvv prog (convert 100 5 t_238) w fun t_239 w =>
            pvv prog (Instr.indexAt 44 out_228 i_229) w fun t_240 w =>
            efu prog (Instr.storeAt 5 t_240 t_239) w fun u_241 w =>
            pvv prog (binOp .add 3 i_229 (.int .i64 1)) w fun t_242 w =>
            again_230 [t_242] w) <|
          ldv prog (Instr.loadAt 44 out_228) w fun t_243 w =>
          efu prog (Instr.storeAt 44 t_0 t_243) w fun u_244 w =>
          ∃ r_245, (do loadVar 44 (← asAddr t_0)).run prog w = .ok r_245 w ∧ K r_245 w) [(.int .i64 0)] w) [(.int .i64 0)] w) [m_6, (.int .i64 0)] w) [t_5] w)
theorem B44_eq (b_p0 : Value) (w : World) (K : Value → World → Prop) : denFn prog Tryz.f44 T44 [b_p0] w K = B44 b_p0 w K := by kernel_rfl
theorem c44 {b_p0 : Value} {w : World} {K : Value → World → Prop} (h : B44 b_p0 w K) : Calls prog 44 #[b_p0] w (Ret K) :=
  denFn_calls Tryz.func44 T44_ok (Eq.mpr (B44_eq b_p0 w K) h)

-- 78 internal/strconv.underscoreOK
def T78 : Ann := (.seq .none (.seq .none (.seq .none (.meet 2097089 [0] (.seq .none (.seq .none .none)) (.seq .none (.meet 2251799811588152 [3, 4, 5] (.seq .none (.seq (.seq .none (.seq .none .none)) .none)) (.seq (.block (.loop 4951760157139269299782811676 [3, 4] (.seq (.seq .none (.seq .none .none)) (.meet 4951760156997405911520641036 [3] (.block (.seq (.seq .none (.seq (.seq .none .none) .none)) (.seq (.seq .none (.seq (.seq (.seq .none (.seq (.seq .none .none) .none)) (.seq .none .none)) .none)) (.seq (.seq .none (.seq (.seq .none .none) .none)) .none)))) .none)))) (.seq .none .none))))))))
theorem T78_ok : chkFn prog Tryz.f78 T78 = true := by kernel_rfl
def B78 (s_p0 : Value) (w : World) (K : Value → World → Prop) : Prop :=
  jn (fun σ w => pop σ fun s_0 σ => fin σ <|
    jn (fun σ w => pop σ fun saw_1 σ => pop σ fun i_2 σ => pop σ fun hex_3 σ => fin σ <|
      lp (fun σ w again_6 => pop σ fun saw_4 σ => pop σ fun i_5 σ => fin σ <|
        pv prog (oBi .len #[9] 3 #[false] #[s_0]) w fun t_7 w =>
        pvv prog (binOp .lss 3 i_5 t_7) w fun t_8 w =>
        cd t_8 (
          jn (fun σ w => pop σ fun saw_9 σ => fin σ <|
            pvv prog (binOp .add 3 i_5 (.int .i64 1)) w fun t_10 w =>
            again_6 [saw_9, t_10] w) fun k_11 =>
          pvv prog (Instr.index 9 s_0 i_5) w fun t_12 w =>
          pvv prog (binOp .leq 5 (.int .u8 48) t_12) w fun t_13 w =>
          gate (some (t_13, true)) (fun K => K s_0 w) w fun t_14 w =>
          gate (some (t_13, true)) (fun K => K i_5 w) w fun t_15 w =>
          gate (some (t_13, true)) (fun K => pvv prog (Instr.index 9 t_14 t_15) w K) w fun t_16 w =>
          gate (some (t_13, true)) (fun K => pvv prog (binOp .leq 5 t_16 (.int .u8 57)) w K) w fun t_17 w =>
          pv prog (oPick t_13 t_17 (.bool false)) w fun t_18 w =>
          gate (some (t_18, false)) (fun K => K hex_3 w) w fun t_19 w =>
          gate (some (t_18, false)) (fun K => K t_19 w) w fun t_20 w =>
          gate (some (t_20, true)) (fun K => K s_0 w) w fun t_21 w =>
          gate (some (t_20, true)) (fun K => K i_5 w) w fun t_22 w =>
          gate (some (t_20, true)) (fun K => pvv prog (Instr.index 9 t_21 t_22) w K) w fun t_23 w =>
          gate (some (t_20, true)) (fun K => Calls prog 77 #[t_23] w (Ret K)) w fun t_24 w =>
          gate (some (t_20, true)) (fun K => pvv prog (binOp .leq 5 (.int .u8 97) t_24) w K) w fun t_25 w =>
          gate (some (t_18, false)) (fun K => pv prog (oPick t_20 t_25 (.bool false)) w K) w fun t_26 w =>
          gate (some (t_18, false)) (fun K => K t_26 w) w fun t_27 w =>
          gate (some (t_27, true)) (fun K => K s_0 w) w fun t_28 w =>
          gate (some (t_27, true)) (fun K => K i_5 w) w fun t_29 w =>
          gate (some (t_27, true)) (fun K => pvv prog (Instr.index 9 t_28 t_29) w K) w fun t_30 w =>
          gate (some (t_27, true)) (fun K => Calls prog 77 #[t_30] w (Ret K)) w fun t_31 w =>
          gate (some (t_27, true)) (fun K => pvv prog (binOp .leq 5 t_31 (.int .u8 102)) w K) w fun t_32 w =>
          gate (some (t_18, false)) (fun K => pv prog (oPick t_27 t_32 (.bool false)) w K) w fun t_33 w =>
          pv prog (oPick t_18 (.bool true) t_33) w fun t_34 w =>
          cd t_34 (
            k_11 [(.int .i32 48)] w) <|
          pvv prog (Instr.index 9 s_0 i_5) w fun t_35 w =>
          pvv prog (oEq .eql 5 (.tmp 86) (.const (.int .u8 95)) t_35 (.int .u8 95)) w fun t_36 w =>
          cd t_36 (
            pvv prog (oEq .neq 21 (.tmp 88) (.const (.int .i32 48)) saw_4 (.int .i32 48)) w fun t_37 w =>
            cd t_37 (
              K (.bool false) w) <|
            k_11 [(.int .i32 95)] w) <|
          pvv prog (oEq .eql 21 (.tmp 90) (.const (.int .i32 95)) saw_4 (.int .i32 95)) w fun t_38 w =>
          cd t_38 (
            K (.bool false) w) <|
          k_11 [(.int .i32 33)] w) <|
        pvv prog (oEq .neq 21 (.tmp 92) (.const (.int .i32 95)) saw_4 (.int .i32 95)) w fun t_39 w =>
        K t_39 w) [saw_1, i_2] w) fun k_40 =>
    pv prog (oBi .len #[9] 3 #[false] #[s_0]) w fun t_41 w =>
    pvv prog (binOp .geq 3 t_41 (.int .i64 2)) w fun t_42 w =>
    gate (some (t_42, true)) (fun K => K s_0 w) w fun t_43 w =>
    gate (some (t_42, true)) (fun K => pvv prog (Instr.index 9 t_43 (.int .i64 0)) w K) w fun t_44 w =>
    gate (some (t_42, true)) (fun K => pvv prog (oEq .eql 5 (.tmp 26) (.const (.int .u8 48)) t_44 (.int .u8 48)) w K) w fun t_45 w =>
    pv prog (oPick t_42 t_45 (.bool false)) w fun t_46 w =>
    gate (some (t_46, true)) (fun K => K s_0 w) w fun t_47 w =>
    gate (some (t_46, true)) (fun K => pvv prog (Instr.index 9 t_47 (.int .i64 1)) w K) w fun t_48 w =>
    gate (some (t_46, true)) (fun K => Calls prog 77 #[t_48] w (Ret K)) w fun t_49 w =>
    gate (some (t_46, true)) (fun K => pvv prog (oEq .eql 5 (.tmp 32) (.const (.int .u8 98)) t_49 (.int .u8 98)) w K) w fun t_50 w =>
    gate (some (t_46, true)) (fun K => K t_50 w) w fun t_51 w =>
    gate (some (t_51, false)) (fun K => K s_0 w) w fun t_52 w =>
    gate (some (t_51, false)) (fun K => pvv prog (Instr.index 9 t_52 (.int .i64 1)) w K) w fun t_53 w =>
    gate (some (t_51, false)) (fun K => Calls prog 77 #[t_53] w (Ret K)) w fun t_54 w =>
    gate (some (t_51, false)) (fun K => pvv prog (oEq .eql 5 (.tmp 37) (.const (.int .u8 111)) t_54 (.int .u8 111)) w K) w fun t_55 w =>
    gate (some (t_46, true)) (fun K => pv prog (oPick t_51 (.bool true) t_55) w K) w fun t_56 w =>
    gate (some (t_46, true)) (fun K => K t_56 w) w fun t_57 w =>
    gate (some (t_57, false)) (fun K => K s_0 w) w fun t_58 w =>
    gate (some (t_57, false)) (fun K => pvv prog (Instr.index 9 t_58 (.int .i64 1)) w K) w fun t_59 w =>
    gate (some (t_57, false)) (fun K => Calls prog 77 #[t_59] w (Ret K)) w fun t_60 w =>
    gate (some (t_57, false)) (fun K => pvv prog (oEq .eql 5 (.tmp 43) (.const (.int .u8 120)) t_60 (.int .u8 120)) w K) w fun t_61 w =>
    gate (some (t_46, true)) (fun K => pv prog (oPick t_57 (.bool true) t_61) w K) w fun t_62 w =>
    pv prog (oPick t_46 t_62 (.bool false)) w fun t_63 w =>
    cd t_63 (
      pvv prog (Instr.index 9 s_0 (.int .i64 1)) w fun t_64 w =>
      Calls prog 77 #[t_64] w (Ret fun t_65 w =>
      pvv prog (oEq .eql 5 (.tmp 49) (.const (.int .u8 120)) t_65 (.int .u8 120)) w fun t_66 w =>
      k_40 [(.int .i32 48), (.int .i64 2), t_66] w)) <|
    k_40 [(.int .i32 94), (.int .i64 0), (.bool false)] w) fun k_67 =>
  pv prog (oBi .len #[9] 3 #[false] #[s_p0]) w fun t_68 w =>
  pvv prog (binOp .geq 3 t_68 (.int .i64 1)) w fun t_69 w =>
  gate (some (t_69, true)) (fun K => K s_p0 w) w fun t_70 w =>
  gate (some (t_69, true)) (fun K => pvv prog (Instr.index 9 t_70 (.int .i64 0)) w K) w fun t_71 w =>
  gate (some (t_69, true)) (fun K => pvv prog (oEq .eql 5 (.tmp 11) (.const (.int .u8 45)) t_71 (.int .u8 45)) w K) w fun t_72 w =>
  gate (some (t_69, true)) (fun K => K t_72 w) w fun t_73 w =>
  gate (some (t_73, false)) (fun K => K s_p0 w) w fun t_74 w =>
  gate (some (t_73, false)) (fun K => pvv prog (Instr.index 9 t_74 (.int .i64 0)) w K) w fun t_75 w =>
  gate (some (t_73, false)) (fun K => pvv prog (oEq .eql 5 (.tmp 15) (.const (.int .u8 43)) t_75 (.int .u8 43)) w K) w fun t_76 w =>
  gate (some (t_69, true)) (fun K => pv prog (oPick t_73 (.bool true) t_76) w K) w fun t_77 w =>
  pv prog (oPick t_69 t_77 (.bool false)) w fun t_78 w =>
  cd t_78 (
    pvv prog (Instr.sliceAt 9 s_p0 (some (.int .i64 1)) none none) w fun t_79 w =>
    k_67 [t_79] w) <|
  k_67 [s_p0] w
theorem B78_eq (s_p0 : Value) (w : World) (K : Value → World → Prop) : denFn prog Tryz.f78 T78 [s_p0] w K = B78 s_p0 w K := by kernel_rfl
theorem c78 {s_p0 : Value} {w : World} {K : Value → World → Prop} (h : B78 s_p0 w K) : Calls prog 78 #[s_p0] w (Ret K) :=
  denFn_calls Tryz.func78 T78_ok (Eq.mpr (B78_eq s_p0 w K) h)

-- 29 holdfast/holdfastref02.ToNumber
def T29 : Ann := (.seq .none (.seq (.seq .none (.seq (.seq .none .none) .none)) (.seq (.seq .none (.block (.loop 576460752169205820 [4] (.seq (.seq .none (.seq .none .none)) (.seq (.block (.seq .none (.seq .none (.seq (.seq .none .none) .none)))) .none))))) (.seq .none (.seq (.seq .none (.block (.loop 19807040627989623646082564556 [6, 7] (.seq (.seq .none (.seq .none .none)) (.seq (.block (.seq .none (.meet 1207745227993911763403008 [8] (.seq .none (.seq .none .none)) (.seq (.seq .none (.seq (.seq .none .none) .none)) .none)))) .none))))) (.seq .none .none))))))
theorem T29_ok : chkFn prog Tryz.f29 T29 = true := by kernel_rfl
def B29 (s_p0 : Value) (w : World) (K : Value → World → Prop) : Prop :=
  pv prog (oBi .len #[9] 3 #[false] #[s_p0]) w fun t_0 w =>
  pvv prog (binOp .lss 3 t_0 (.int .i64 1)) w fun t_1 w =>
  gate (some (t_1, false)) (fun K => K s_p0 w) w fun t_2 w =>
  gate (some (t_1, false)) (fun K => pv prog (oBi .len #[9] 3 #[false] #[t_2]) w K) w fun t_3 w =>
  gate (some (t_1, false)) (fun K => pvv prog (binOp .gtr 3 t_3 (.int .i64 17)) w K) w fun t_4 w =>
  pv prog (oPick t_1 (.bool true) t_4) w fun t_5 w =>
  gate (some (t_5, false)) (fun K => K s_p0 w) w fun t_6 w =>
  gate (some (t_5, false)) (fun K => pvv prog (Instr.index 9 t_6 (.int .i64 0)) w K) w fun t_7 w =>
  gate (some (t_5, false)) (fun K => pvv prog (convert 5 3 t_7) w K) w fun t_8 w =>
  gate (some (t_5, false)) (fun K => pvv prog (binOp .sub 3 t_8 (.int .i64 97)) w K) w fun t_9 w =>
  gate (some (t_5, false)) (fun K => K s_p0 w) w fun t_10 w =>
  gate (some (t_5, false)) (fun K => pv prog (oBi .len #[9] 3 #[false] #[t_10]) w K) w fun t_11 w =>
  gate (some (t_5, false)) (fun K => pvv prog (binOp .sub 3 t_11 (.int .i64 1)) w K) w fun t_12 w =>
  gate (some (t_5, false)) (fun K => pvv prog (oEq .neq 3 (.tmp 21) (.tmp 24) t_9 t_12) w K) w fun t_13 w =>
  pv prog (oPick t_5 (.bool true) t_13) w fun t_14 w =>
  cd t_14 (
    K (.tuple #[(.int .i64 0), (.int .i64 3)]) w) <|
  lp (fun σ w again_16 => pop σ fun i_15 σ => fin σ <|
    pv prog (oBi .len #[9] 3 #[false] #[s_p0]) w fun t_17 w =>
    pvv prog (binOp .lss 3 i_15 t_17) w fun t_18 w =>
    cd t_18 (
      pvv prog (Instr.index 9 s_p0 i_15) w fun t_19 w =>
      pvv prog (binOp .geq 5 t_19 (.int .u8 48)) w fun t_20 w =>
      gate (some (t_20, true)) (fun K => K t_19 w) w fun t_21 w =>
      gate (some (t_20, true)) (fun K => pvv prog (binOp .leq 5 t_21 (.int .u8 57)) w K) w fun t_22 w =>
      pv prog (oPick t_20 t_22 (.bool false)) w fun t_23 w =>
      gate (some (t_23, false)) (fun K => K t_19 w) w fun t_24 w =>
      gate (some (t_23, false)) (fun K => pvv prog (binOp .geq 5 t_24 (.int .u8 97)) w K) w fun t_25 w =>
      gate (some (t_23, false)) (fun K => K t_25 w) w fun t_26 w =>
      gate (some (t_26, true)) (fun K => K t_19 w) w fun t_27 w =>
      gate (some (t_26, true)) (fun K => pvv prog (binOp .leq 5 t_27 (.int .u8 102)) w K) w fun t_28 w =>
      gate (some (t_23, false)) (fun K => pv prog (oPick t_26 t_28 (.bool false)) w K) w fun t_29 w =>
      pv prog (oPick t_23 (.bool true) t_29) w fun t_30 w =>
      pvv prog (Op.unary .not t_30) w fun t_31 w =>
      gate (some (t_31, false)) (fun K => K i_15 w) w fun t_32 w =>
      gate (some (t_31, false)) (fun K => pvv prog (oEq .eql 3 (.tmp 52) (.const (.int .i64 1)) t_32 (.int .i64 1)) w K) w fun t_33 w =>
      gate (some (t_31, false)) (fun K => K t_33 w) w fun t_34 w =>
      gate (some (t_34, true)) (fun K => K t_19 w) w fun t_35 w =>
      gate (some (t_34, true)) (fun K => pvv prog (oEq .eql 5 (.tmp 55) (.const (.int .u8 48)) t_35 (.int .u8 48)) w K) w fun t_36 w =>
      gate (some (t_31, false)) (fun K => pv prog (oPick t_34 t_36 (.bool false)) w K) w fun t_37 w =>
      pv prog (oPick t_31 (.bool true) t_37) w fun t_38 w =>
      cd t_38 (
        K (.tuple #[(.int .i64 0), (.int .i64 3)]) w) <|
      pvv prog (binOp .add 3 i_15 (.int .i64 1)) w fun t_39 w =>
      again_16 [t_39] w) <|
    lp (fun σ w again_42 => pop σ fun n_40 σ => pop σ fun i_41 σ => fin σ <|
      pv prog (oBi .len #[9] 3 #[false] #[s_p0]) w fun t_43 w =>
      pvv prog (binOp .lss 3 i_41 t_43) w fun t_44 w =>
      cd t_44 (
        pvv prog (Instr.index 9 s_p0 i_41) w fun t_45 w =>
        pvv prog (convert 5 3 t_45) w fun t_46 w =>
        pvv prog (binOp .sub 3 t_46 (.int .i64 48)) w fun t_47 w =>
        jn (fun σ w => pop σ fun d_48 σ => fin σ <|
          pvv prog (binOp .gtr 3 n_40 (.int .i64 288230376151711744)) w fun t_49 w =>
          gate (some (t_49, false)) (fun K => K n_40 w) w fun t_50 w =>
          gate (some (t_49, false)) (fun K => pvv prog (oEq .eql 3 (.tmp 83) (.const (.int .i64 288230376151711744)) t_50 (.int .i64 288230376151711744)) w K) w fun t_51 w =>
          gate (some (t_49, false)) (fun K => K t_51 w) w fun t_52 w =>
          gate (some (t_52, true)) (fun K => K d_48 w) w fun t_53 w =>
          gate (some (t_52, true)) (fun K => pvv prog (binOp .gtr 3 t_53 (.int .i64 0)) w K) w fun t_54 w =>
          gate (some (t_49, false)) (fun K => pv prog (oPick t_52 t_54 (.bool false)) w K) w fun t_55 w =>
          pv prog (oPick t_49 (.bool true) t_55) w fun t_56 w =>
          cd t_56 (
            K (.tuple #[(.int .i64 0), (.int .i64 2)]) w) <|
          pvv prog (binOp .mul 3 n_40 (.int .i64 16)) w fun t_57 w =>
          pvv prog (binOp .add 3 t_57 d_48) w fun t_58 w =>
          pvv prog (binOp .add 3 i_41 (.int .i64 1)) w fun t_59 w =>
          again_42 [t_58, t_59] w) fun k_60 =>
        pvv prog (Instr.index 9 s_p0 i_41) w fun t_61 w =>
        pvv prog (binOp .geq 5 t_61 (.int .u8 97)) w fun t_62 w =>
        cd t_62 (
          pvv prog (Instr.index 9 s_p0 i_41) w fun t_63 w =>
          pvv prog (convert 5 3 t_63) w fun t_64 w =>
          pvv prog (binOp .sub 3 t_64 (.int .i64 97)) w fun t_65 w =>
          pvv prog (binOp .add 3 t_65 (.int .i64 10)) w fun t_66 w =>
          k_60 [t_66] w) <|
        k_60 [t_47] w) <|
      K (.tuple #[n_40, (.int .i64 0)]) w) [(.int .i64 0), (.int .i64 1)] w) [(.int .i64 1)] w
theorem B29_eq (s_p0 : Value) (w : World) (K : Value → World → Prop) : denFn prog Tryz.f29 T29 [s_p0] w K = B29 s_p0 w K := by kernel_rfl
theorem c29 {s_p0 : Value} {w : World} {K : Value → World → Prop} (h : B29 s_p0 w K) : Calls prog 29 #[s_p0] w (Ret K) :=
  denFn_calls Tryz.func29 T29_ok (Eq.mpr (B29_eq s_p0 w K) h)

-- 20 (*holdfast/holdfastref14.Chain).Add
def T20 : Ann := (.seq .none (.seq (.block (.seq .none (.seq (.seq .none .none) (.seq .none (.seq (.seq .none .none) (.seq .none (.seq (.seq .none .none) (.seq .none (.seq (.seq .none .none) (.seq .none (.seq (.seq .none .none) .none))))))))))) (.seq .none (.seq .none (.seq .none (.seq .none (.seq (.draw [.op 0 .pure, .op 1 .pure, .op 2 .pure, .op 3 .pure, .op 4 .load, .op 5 .load, .op 6 .eff, .op 7 .eff, .op 8 .pure, .op 9 .pure, .op 10 .eff]) (.seq .none (.seq .none .none)))))))))
theorem T20_ok : chkFn prog Tryz.f20 T20 = true := by kernel_rfl
def B20 (c_p0 at_p1 what_p2 who_p3 : Value) (w : World) (K : Value → World → Prop) : Prop :=
  efv prog (Instr.alloc 56 true (.tuple #[])) w fun t_0 w =>
  pvv prog (oEq .eql 27 (.tmp 13) (.const (.pointer none)) c_p0 (.pointer none)) w fun t_1 w =>
  cd t_1 (
    pvv prog (Instr.build 56 #[]) w fun t_2 w =>
    efu prog (Instr.storeAt 56 t_0 t_2) w fun u_3 w =>
    ∃ r_4, (do loadVar 56 (← asAddr t_0)).run prog w = .ok r_4 w ∧ K (.tuple #[r_4, (.int .i64 1)]) w) <|
  pvv prog (binOp .lss 3 at_p1 (.int .i64 0)) w fun t_5 w =>
  gate (some (t_5, false)) (fun K => K at_p1 w) w fun t_6 w =>
  gate (some (t_5, false)) (fun K => pvv prog (binOp .gtr 3 t_6 (.int .i64 1099511627776)) w K) w fun t_7 w =>
  pv prog (oPick t_5 (.bool true) t_7) w fun t_8 w =>
  cd t_8 (
    pvv prog (Instr.build 56 #[]) w fun t_9 w =>
    efu prog (Instr.storeAt 56 t_0 t_9) w fun u_10 w =>
    ∃ r_11, (do loadVar 56 (← asAddr t_0)).run prog w = .ok r_11 w ∧ K (.tuple #[r_11, (.int .i64 2)]) w) <|
  pv prog (oBi .len #[9] 3 #[false] #[what_p2]) w fun t_12 w =>
  pvv prog (binOp .gtr 3 t_12 (.int .i64 12)) w fun t_13 w =>
  gate (some (t_13, false)) (fun K => K who_p3 w) w fun t_14 w =>
  gate (some (t_13, false)) (fun K => pv prog (oBi .len #[9] 3 #[false] #[t_14]) w K) w fun t_15 w =>
  gate (some (t_13, false)) (fun K => pvv prog (binOp .gtr 3 t_15 (.int .i64 30)) w K) w fun t_16 w =>
  pv prog (oPick t_13 (.bool true) t_16) w fun t_17 w =>
  cd t_17 (
    pvv prog (Instr.build 56 #[]) w fun t_18 w =>
    efu prog (Instr.storeAt 56 t_0 t_18) w fun u_19 w =>
    ∃ r_20, (do loadVar 56 (← asAddr t_0)).run prog w = .ok r_20 w ∧ K (.tuple #[r_20, (.int .i64 6)]) w) <|
  pv prog (oNil c_p0) w fun t_21 w =>
  pvv prog (Instr.fieldAt 54 t_21 2) w fun t_22 w =>
  ldv prog (Instr.loadAt 3 t_22) w fun t_23 w =>
  pvv prog (binOp .lss 3 at_p1 t_23) w fun t_24 w =>
  cd t_24 (
    pvv prog (Instr.build 56 #[]) w fun t_25 w =>
    efu prog (Instr.storeAt 56 t_0 t_25) w fun u_26 w =>
    ∃ r_27, (do loadVar 56 (← asAddr t_0)).run prog w = .ok r_27 w ∧ K (.tuple #[r_27, (.int .i64 9)]) w) <|
  pv prog (oNil c_p0) w fun t_28 w =>
  pvv prog (Instr.fieldAt 54 t_28 6) w fun t_29 w =>
  ldv prog (Instr.loadAt 41 t_29) w fun t_30 w =>
  pv prog (oBi .len #[41] 3 #[false] #[t_30]) w fun t_31 w =>
  pvv prog (binOp .geq 3 t_31 (.int .i64 64)) w fun t_32 w =>
  cd t_32 (
    pvv prog (Instr.build 56 #[]) w fun t_33 w =>
    efu prog (Instr.storeAt 56 t_0 t_33) w fun u_34 w =>
    ∃ r_35, (do loadVar 56 (← asAddr t_0)).run prog w = .ok r_35 w ∧ K (.tuple #[r_35, (.int .i64 26)]) w) <|
  Calls prog 38 #[c_p0] w (Ret fun t_36 w =>
  pvv prog (binOp .add 3 t_36 (.int .i64 1)) w fun t_37 w =>
  pvv prog (Instr.build 56 #[(0, t_37), (1, at_p1), (2, what_p2), (3, who_p3)]) w fun t_38 w =>
  efv prog (Instr.alloc 56 true (.tuple #[])) w fun x_39 w =>
  efu prog (Instr.storeAt 56 x_39 t_38) w fun u_40 w =>
  pv prog (oNil c_p0) w fun t_41 w =>
  pvv prog (Instr.fieldAt 54 t_41 6) w fun t_42 w =>
  ldv prog (Instr.loadAt 41 t_42) w fun t_43 w =>
  ef prog (oBi .append #[41, 41] 41 #[false, false] #[(.slice none 0 0), t_43]) w fun t_44 w =>
  ldv prog (Instr.loadAt 56 x_39) w fun t_45 w =>
  efv prog (Instr.buildSlice 41 1 #[(0, t_45)]) w fun t_46 w =>
  ef prog (oBi .append #[41, 41] 41 #[false, false] #[t_44, t_46]) w fun t_47 w =>
  pv prog (oNil c_p0) w fun t_48 w =>
  pvv prog (Instr.fieldAt 54 t_48 6) w fun t_49 w =>
  efu prog (Instr.storeAt 41 t_49 t_47) w fun u_50 w =>
  dr w fun w =>
  pv prog (oNil c_p0) w fun t_51 w =>
  pvv prog (Instr.fieldAt 54 t_51 5) w fun t_52 w =>
  bindS (vN (Instr.loadAt 44 t_52)) fun m_54 => ldv prog (Instr.loadAt 44 t_52) w fun t_53 w =>
  bindS (vN (Instr.loadAt 56 x_39)) fun m_56 => ldv prog (Instr.loadAt 56 x_39) w fun t_55 w =>
  Calls prog 32 #[t_55] w (Ret fun t_57 w => stay prog none m_54 t_53 w <| 
  Calls prog 31 #[t_53, t_57] w (Ret fun t_58 w => stay prog none m_56 t_55 w <| 
  pv prog (oNil c_p0) w fun t_59 w =>
  pvv prog (Instr.fieldAt 54 t_59 5) w fun t_60 w =>
  efu prog (Instr.storeAt 44 t_60 t_58) w fun u_61 w =>
  pv prog (oNil c_p0) w fun t_62 w =>
  pvv prog (Instr.fieldAt 54 t_62 2) w fun t_63 w =>
  efu prog (Instr.storeAt 3 t_63 at_p1) w fun u_64 w =>
  ldv prog (Instr.loadAt 56 x_39) w fun t_65 w =>
  efu prog (Instr.storeAt 56 t_0 t_65) w fun u_66 w =>
  ∃ r_67, (do loadVar 56 (← asAddr t_0)).run prog w = .ok r_67 w ∧ K (.tuple #[r_67, (.int .i64 0)]) w)))
theorem B20_eq (c_p0 at_p1 what_p2 who_p3 : Value) (w : World) (K : Value → World → Prop) : denFn prog Tryz.f20 T20 [c_p0, at_p1, what_p2, who_p3] w K = B20 c_p0 at_p1 what_p2 who_p3 w K := by kernel_rfl
theorem c20 {c_p0 at_p1 what_p2 who_p3 : Value} {w : World} {K : Value → World → Prop} (h : B20 c_p0 at_p1 what_p2 who_p3 w K) : Calls prog 20 #[c_p0, at_p1, what_p2, who_p3] w (Ret K) :=
  denFn_calls Tryz.func20 T20_ok (Eq.mpr (B20_eq c_p0 at_p1 what_p2 who_p3 w K) h)

-- 7 holdfast/holdfastlaw14.do
def T7 : Ann := (.seq .none (.seq (.seq .none (.block (.seq .none (.seq (.seq .none (.seq .none (.seq .none .none))) (.seq .none (.seq (.seq .none (.seq .none (.seq .none .none))) (.seq .none (.seq (.seq .none (.seq .none (.seq .none .none))) .none)))))))) (.seq .none .none)))
theorem T7_ok : chkFn prog Tryz.f7 T7 = true := by kernel_rfl
def B7 (c_p0 r_p1 x_p2 : Value) (w : World) (K : Value → World → Prop) : Prop :=
  efv prog (Instr.box 24 x_p2) w fun x_0 w =>
  pvv prog (Instr.fieldAt 24 x_0 0) w fun t_1 w =>
  ldv prog (Instr.loadAt 3 t_1) w fun t_2 w =>
  pvv prog (oEq .eql 3 (.tmp 20) (.const (.int .i64 0)) t_2 (.int .i64 0)) w fun t_3 w =>
  cd t_3 (
    pvv prog (Instr.fieldAt 24 x_0 1) w fun t_4 w =>
    ldv prog (Instr.loadAt 3 t_4) w fun t_5 w =>
    pvv prog (Instr.fieldAt 24 x_0 3) w fun t_6 w =>
    ldv prog (Instr.loadAt 9 t_6) w fun t_7 w =>
    pvv prog (Instr.fieldAt 24 x_0 4) w fun t_8 w =>
    ldv prog (Instr.loadAt 9 t_8) w fun t_9 w =>
    Calls prog 17 #[c_p0, t_5, t_7, t_9] w (Ret fun t_10 w =>
    pvv prog (Instr.extract t_10 0) w fun t_11 w =>
    pvv prog (Instr.extract t_10 1) w fun t_12 w =>
    efv prog (Instr.alloc 56 true (.tuple #[])) w fun a_13 w =>
    efu prog (Instr.storeAt 56 a_13 t_11) w fun u_14 w =>
    pvv prog (Instr.fieldAt 24 x_0 1) w fun t_15 w =>
    ldv prog (Instr.loadAt 3 t_15) w fun t_16 w =>
    pvv prog (Instr.fieldAt 24 x_0 3) w fun t_17 w =>
    ldv prog (Instr.loadAt 9 t_17) w fun t_18 w =>
    pvv prog (Instr.fieldAt 24 x_0 4) w fun t_19 w =>
    ldv prog (Instr.loadAt 9 t_19) w fun t_20 w =>
    Calls prog 20 #[r_p1, t_16, t_18, t_20] w (Ret fun t_21 w =>
    pvv prog (Instr.extract t_21 0) w fun t_22 w =>
    pvv prog (Instr.extract t_21 1) w fun t_23 w =>
    efv prog (Instr.alloc 56 true (.tuple #[])) w fun b_24 w =>
    efu prog (Instr.storeAt 56 b_24 t_22) w fun u_25 w =>
    ldv prog (Instr.loadAt 56 a_13) w fun t_26 w =>
    ldv prog (Instr.loadAt 56 b_24) w fun t_27 w =>
    pvv prog (oEq .eql 56 (.tmp 45) (.tmp 46) t_26 t_27) w fun t_28 w =>
    gate (some (t_28, true)) (fun K => K t_12 w) w fun t_29 w =>
    gate (some (t_28, true)) (fun K => K t_23 w) w fun t_30 w =>
    gate (some (t_28, true)) (fun K => pvv prog (oEq .eql 36 (.tmp 49) (.tmp 50) t_29 t_30) w K) w fun t_31 w =>
    pv prog (oPick t_28 t_31 (.bool false)) w fun t_32 w =>
    K t_32 w))) <|
  pvv prog (oEq .eql 3 (.tmp 20) (.const (.int .i64 1)) t_2 (.int .i64 1)) w fun t_33 w =>
  cd t_33 (
    Calls prog 18 #[c_p0] w (Ret fun t_34 w =>
    pvv prog (Instr.extract t_34 0) w fun t_35 w =>
    pvv prog (Instr.extract t_34 1) w fun t_36 w =>
    efv prog (Instr.alloc 44 true (.tuple #[])) w fun h_37 w =>
    efu prog (Instr.storeAt 44 h_37 t_36) w fun u_38 w =>
    Calls prog 21 #[r_p1] w (Ret fun t_39 w =>
    pvv prog (Instr.extract t_39 0) w fun t_40 w =>
    pvv prog (Instr.extract t_39 1) w fun t_41 w =>
    efv prog (Instr.alloc 44 true (.tuple #[])) w fun g_42 w =>
    efu prog (Instr.storeAt 44 g_42 t_41) w fun u_43 w =>
    pvv prog (oEq .eql 3 (.tmp 65) (.tmp 66) t_35 t_40) w fun t_44 w =>
    gate (some (t_44, true)) (fun K => ldv prog (Instr.loadAt 44 h_37) w K) w fun t_45 w =>
    gate (some (t_44, true)) (fun K => ldv prog (Instr.loadAt 44 g_42) w K) w fun t_46 w =>
    gate (some (t_44, true)) (fun K => pvv prog (oEq .eql 44 (.tmp 69) (.tmp 70) t_45 t_46) w K) w fun t_47 w =>
    pv prog (oPick t_44 t_47 (.bool false)) w fun t_48 w =>
    K t_48 w))) <|
  pvv prog (oEq .eql 3 (.tmp 20) (.const (.int .i64 2)) t_2 (.int .i64 2)) w fun t_49 w =>
  cd t_49 (
    pvv prog (Instr.fieldAt 24 x_0 2) w fun t_50 w =>
    ldv prog (Instr.loadAt 3 t_50) w fun t_51 w =>
    Calls prog 19 #[c_p0, t_51] w (Ret fun t_52 w =>
    pvv prog (Instr.extract t_52 0) w fun t_53 w =>
    pvv prog (Instr.extract t_52 1) w fun t_54 w =>
    pvv prog (Instr.fieldAt 24 x_0 2) w fun t_55 w =>
    ldv prog (Instr.loadAt 3 t_55) w fun t_56 w =>
    Calls prog 22 #[r_p1, t_56] w (Ret fun t_57 w =>
    pvv prog (Instr.extract t_57 0) w fun t_58 w =>
    pvv prog (Instr.extract t_57 1) w fun t_59 w =>
    pvv prog (oEq .eql 3 (.tmp 89) (.tmp 90) t_53 t_58) w fun t_60 w =>
    gate (some (t_60, true)) (fun K => K t_54 w) w fun t_61 w =>
    gate (some (t_60, true)) (fun K => K t_59 w) w fun t_62 w =>
    gate (some (t_60, true)) (fun K => pvv prog (oEq .eql 36 (.tmp 93) (.tmp 94) t_61 t_62) w K) w fun t_63 w =>
    pv prog (oPick t_60 t_63 (.bool false)) w fun t_64 w =>
    K t_64 w))) <|
  Calls prog 14 #[c_p0] w (Ret fun t_65 w =>
  Calls prog 15 #[r_p1] w (Ret fun t_66 w =>
  pvv prog (oEq .eql 36 (.tmp 98) (.tmp 100) t_65 t_66) w fun t_67 w =>
  K t_67 w))
theorem B7_eq (c_p0 r_p1 x_p2 : Value) (w : World) (K : Value → World → Prop) : denFn prog Tryz.f7 T7 [c_p0, r_p1, x_p2] w K = B7 c_p0 r_p1 x_p2 w K := by kernel_rfl
theorem c7 {c_p0 r_p1 x_p2 : Value} {w : World} {K : Value → World → Prop} (h : B7 c_p0 r_p1 x_p2 w K) : Calls prog 7 #[c_p0, r_p1, x_p2] w (Ret K) :=
  denFn_calls Tryz.func7 T7_ok (Eq.mpr (B7_eq c_p0 r_p1 x_p2 w K) h)

-- 41 holdfast/codec.ToNumber
def T41 : Ann := (.seq .none (.seq (.seq .none (.seq (.seq .none .none) .none)) (.seq .none (.seq (.seq .none (.seq (.seq .none .none) .none)) (.seq .none (.seq (.seq .none (.seq (.seq .none .none) .none)) (.seq .none .none)))))))
theorem T41_ok : chkFn prog Tryz.f41 T41 = true := by kernel_rfl
def B41 (s_p0 : Value) (w : World) (K : Value → World → Prop) : Prop :=
  pvv prog (oEq .eql 9 (.tmp 7) (.const (.string ⟨#[]⟩)) s_p0 (.string ⟨#[]⟩)) w fun t_0 w =>
  gate (some (t_0, false)) (fun K => K s_p0 w) w fun t_1 w =>
  gate (some (t_0, false)) (fun K => pvv prog (Instr.index 9 t_1 (.int .i64 0)) w K) w fun t_2 w =>
  gate (some (t_0, false)) (fun K => pvv prog (convert 5 3 t_2) w K) w fun t_3 w =>
  gate (some (t_0, false)) (fun K => K s_p0 w) w fun t_4 w =>
  gate (some (t_0, false)) (fun K => pv prog (oBi .len #[9] 3 #[false] #[t_4]) w K) w fun t_5 w =>
  gate (some (t_0, false)) (fun K => pvv prog (binOp .add 3 (.int .i64 97) t_5) w K) w fun t_6 w =>
  gate (some (t_0, false)) (fun K => pvv prog (binOp .sub 3 t_6 (.int .i64 1)) w K) w fun t_7 w =>
  gate (some (t_0, false)) (fun K => pvv prog (oEq .neq 3 (.tmp 12) (.tmp 16) t_3 t_7) w K) w fun t_8 w =>
  pv prog (oPick t_0 (.bool true) t_8) w fun t_9 w =>
  gate (some (t_9, false)) (fun K => K s_p0 w) w fun t_10 w =>
  gate (some (t_9, false)) (fun K => pv prog (oBi .len #[9] 3 #[false] #[t_10]) w K) w fun t_11 w =>
  gate (some (t_9, false)) (fun K => pvv prog (binOp .gtr 3 t_11 (.int .i64 17)) w K) w fun t_12 w =>
  pv prog (oPick t_9 (.bool true) t_12) w fun t_13 w =>
  cd t_13 (
    K (.tuple #[(.int .i64 0), (.int .i64 3)]) w) <|
  pvv prog (Instr.sliceAt 9 s_p0 (some (.int .i64 1)) none none) w fun t_14 w =>
  Calls prog 50 #[t_14, (.string ⟨#[48]⟩)] w (Ret fun t_15 w =>
  gate (some (t_15, false)) (fun K => K t_14 w) w fun t_16 w =>
  gate (some (t_15, false)) (fun K => Calls prog 51 #[t_16, (.string ⟨#[48, 49, 50, 51, 52, 53, 54, 55, 56, 57, 97, 98, 99, 100, 101, 102]⟩)] w (Ret K)) w fun t_17 w =>
  gate (some (t_15, false)) (fun K => pvv prog (oEq .neq 9 (.tmp 30) (.const (.string ⟨#[]⟩)) t_17 (.string ⟨#[]⟩)) w K) w fun t_18 w =>
  pv prog (oPick t_15 (.bool true) t_18) w fun t_19 w =>
  cd t_19 (
    K (.tuple #[(.int .i64 0), (.int .i64 3)]) w) <|
  pvv prog (binOp .add 9 (.string ⟨#[48]⟩) t_14) w fun t_20 w =>
  Calls prog 52 #[t_20, (.int .i64 16), (.int .i64 64)] w (Ret fun t_21 w =>
  pvv prog (Instr.extract t_21 0) w fun t_22 w =>
  pvv prog (Instr.extract t_21 1) w fun t_23 w =>
  pvv prog (oEq .neq 96 (.tmp 39) (.const .nilIface) t_23 .nilIface) w fun t_24 w =>
  gate (some (t_24, false)) (fun K => K t_22 w) w fun t_25 w =>
  gate (some (t_24, false)) (fun K => pvv prog (binOp .gtr 94 t_25 (.int .u64 4611686018427387904)) w K) w fun t_26 w =>
  pv prog (oPick t_24 (.bool true) t_26) w fun t_27 w =>
  cd t_27 (
    K (.tuple #[(.int .i64 0), (.int .i64 2)]) w) <|
  pvv prog (convert 94 3 t_22) w fun t_28 w =>
  K (.tuple #[t_28, (.int .i64 0)]) w))
theorem B41_eq (s_p0 : Value) (w : World) (K : Value → World → Prop) : denFn prog Tryz.f41 T41 [s_p0] w K = B41 s_p0 w K := by kernel_rfl
theorem c41 {s_p0 : Value} {w : World} {K : Value → World → Prop} (h : B41 s_p0 w K) : Calls prog 41 #[s_p0] w (Ret K) :=
  denFn_calls Tryz.func41 T41_ok (Eq.mpr (B41_eq s_p0 w K) h)

-- 76 unicode/utf8.DecodeLastRuneInString
def T76 : Ann := (.seq .none (.seq .none (.seq (.seq .none (.seq (.seq .none .none) .none)) (.seq .none (.seq .none (.seq (.seq .none (.seq (.seq .none .none) .none)) (.seq .none (.meet 17171480608 [5] (.seq .none (.block (.loop 17146314784 [5] (.seq (.seq .none (.seq .none .none)) (.seq (.block (.seq .none (.seq .none .none))) .none))))) (.meet 51539607584 [5] (.seq .none (.seq .none .none)) (.seq .none (.seq (.seq .none (.seq (.seq .none .none) .none)) (.seq .none .none))))))))))))
theorem T76_ok : chkFn prog Tryz.f76 T76 = true := by kernel_rfl
def B76 (s_p0 : Value) (w : World) (K : Value → World → Prop) : Prop :=
  pv prog (oBi .len #[9] 3 #[false] #[s_p0]) w fun t_0 w =>
  pvv prog (oEq .eql 3 (.tmp 9) (.const (.int .i64 0)) t_0 (.int .i64 0)) w fun t_1 w =>
  cd t_1 (
    K (.tuple #[(.int .i32 65533), (.int .i64 0)]) w) <|
  pvv prog (binOp .sub 3 t_0 (.int .i64 1)) w fun t_2 w =>
  pvv prog (Instr.index 9 s_p0 t_2) w fun t_3 w =>
  pvv prog (convert 5 21 t_3) w fun t_4 w =>
  pvv prog (binOp .lss 21 t_4 (.int .i32 128)) w fun t_5 w =>
  cd t_5 (
    K (.tuple #[t_4, (.int .i64 1)]) w) <|
  pvv prog (binOp .sub 3 t_0 (.int .i64 4)) w fun t_6 w =>
  pv prog (oBi .max #[3, 3] 3 #[false, true] #[t_6, (.int .i64 0)]) w fun t_7 w =>
  jn (fun σ w => pop σ fun start_8 σ => fin σ <|
    jn (fun σ w => pop σ fun start_9 σ => fin σ <|
      pvv prog (Instr.sliceAt 9 s_p0 (some start_9) (some t_0) none) w fun t_10 w =>
      Calls prog 74 #[t_10] w (Ret fun t_11 w =>
      pvv prog (Instr.extract t_11 0) w fun t_12 w =>
      pvv prog (Instr.extract t_11 1) w fun t_13 w =>
      pvv prog (binOp .add 3 start_9 t_13) w fun t_14 w =>
      pvv prog (oEq .neq 3 (.tmp 46) (.tmp 47) t_14 t_0) w fun t_15 w =>
      cd t_15 (
        K (.tuple #[(.int .i32 65533), (.int .i64 1)]) w) <|
      K (.tuple #[t_12, t_13]) w)) fun k_16 =>
    pvv prog (binOp .lss 3 start_8 (.int .i64 0)) w fun t_17 w =>
    cd t_17 (
      k_16 [(.int .i64 0)] w) <|
    k_16 [start_8] w) fun k_18 =>
  pvv prog (binOp .sub 3 t_2 (.int .i64 1)) w fun t_19 w =>
  lp (fun σ w again_21 => pop σ fun start_20 σ => fin σ <|
    pvv prog (binOp .geq 3 start_20 t_7) w fun t_22 w =>
    cd t_22 (
      pvv prog (Instr.index 9 s_p0 start_20) w fun t_23 w =>
      Calls prog 90 #[t_23] w (Ret fun t_24 w =>
      cd t_24 (
        k_18 [start_20] w) <|
      pvv prog (binOp .sub 3 start_20 (.int .i64 1)) w fun t_25 w =>
      again_21 [t_25] w)) <|
    k_18 [start_20] w) [t_19] w
theorem B76_eq (s_p0 : Value) (w : World) (K : Value → World → Prop) : denFn prog Tryz.f76 T76 [s_p0] w K = B76 s_p0 w K := by kernel_rfl
theorem c76 {s_p0 : Value} {w : World} {K : Value → World → Prop} (h : B76 s_p0 w K) : Calls prog 76 #[s_p0] w (Ret K) :=
  denFn_calls Tryz.func76 T76_ok (Eq.mpr (B76_eq s_p0 w K) h)

-- 22 (*holdfast/holdfastref14.Chain).Prune
def T22 : Ann := (.seq .none (.seq (.seq .none (.seq (.seq .none .none) .none)) (.seq (.seq .none (.seq (.seq .none .none) .none)) (.seq .none (.seq .none (.seq .none (.seq .none (.seq .none (.seq .none .none)))))))))
theorem T22_ok : chkFn prog Tryz.f22 T22 = true := by kernel_rfl
def B22 (c_p0 n_p1 : Value) (w : World) (K : Value → World → Prop) : Prop :=
  pvv prog (oEq .eql 27 (.tmp 8) (.const (.pointer none)) c_p0 (.pointer none)) w fun t_0 w =>
  cd t_0 (
    K (.tuple #[(.int .i64 0), (.int .i64 1)]) w) <|
  pv prog (oNil c_p0) w fun t_1 w =>
  pvv prog (Instr.fieldAt 54 t_1 1) w fun t_2 w =>
  ldv prog (Instr.loadAt 3 t_2) w fun t_3 w =>
  pvv prog (binOp .gtr 3 n_p1 t_3) w fun t_4 w =>
  gate (some (t_4, false)) (fun K => K n_p1 w) w fun t_5 w =>
  gate (some (t_4, false)) (fun K => K c_p0 w) w fun t_6 w =>
  gate (some (t_4, false)) (fun K => pv prog (oNil t_6) w K) w fun t_7 w =>
  gate (some (t_4, false)) (fun K => pvv prog (Instr.fieldAt 54 t_7 0) w K) w fun t_8 w =>
  gate (some (t_4, false)) (fun K => ldv prog (Instr.loadAt 3 t_8) w K) w fun t_9 w =>
  gate (some (t_4, false)) (fun K => pvv prog (binOp .lss 3 t_5 t_9) w K) w fun t_10 w =>
  pv prog (oPick t_4 (.bool true) t_10) w fun t_11 w =>
  cd t_11 (
    K (.tuple #[(.int .i64 0), (.int .i64 2)]) w) <|
  pv prog (oNil c_p0) w fun t_12 w =>
  pvv prog (Instr.fieldAt 54 t_12 0) w fun t_13 w =>
  ldv prog (Instr.loadAt 3 t_13) w fun t_14 w =>
  pvv prog (binOp .sub 3 n_p1 t_14) w fun t_15 w =>
  Calls prog 12 #[c_p0, t_15] w (Ret fun t_16 w =>
  pv prog (oNil c_p0) w fun t_17 w =>
  pvv prog (Instr.fieldAt 54 t_17 3) w fun t_18 w =>
  efu prog (Instr.storeAt 44 t_18 t_16) w fun u_19 w =>
  pv prog (oNil c_p0) w fun t_20 w =>
  pvv prog (Instr.fieldAt 54 t_20 0) w fun t_21 w =>
  efu prog (Instr.storeAt 3 t_21 n_p1) w fun u_22 w =>
  pv prog (oNil c_p0) w fun t_23 w =>
  pvv prog (Instr.fieldAt 54 t_23 6) w fun t_24 w =>
  ldv prog (Instr.loadAt 41 t_24) w fun t_25 w =>
  pvv prog (Instr.sliceAt 41 t_25 (some t_15) none none) w fun t_26 w =>
  ef prog (oBi .append #[41, 41] 41 #[false, false] #[(.slice none 0 0), t_26]) w fun t_27 w =>
  pv prog (oNil c_p0) w fun t_28 w =>
  pvv prog (Instr.fieldAt 54 t_28 6) w fun t_29 w =>
  efu prog (Instr.storeAt 41 t_29 t_27) w fun u_30 w =>
  K (.tuple #[t_15, (.int .i64 0)]) w)
theorem B22_eq (c_p0 n_p1 : Value) (w : World) (K : Value → World → Prop) : denFn prog Tryz.f22 T22 [c_p0, n_p1] w K = B22 c_p0 n_p1 w K := by kernel_rfl
theorem c22 {c_p0 n_p1 : Value} {w : World} {K : Value → World → Prop} (h : B22 c_p0 n_p1 w K) : Calls prog 22 #[c_p0, n_p1] w (Ret K) :=
  denFn_calls Tryz.func22 T22_ok (Eq.mpr (B22_eq c_p0 n_p1 w K) h)

-- 35 holdfast/audit.next
def T35 : Ann := (.seq .none (.seq (.draw [.op 0 .pure, .op 3 .pure, .op 6 .pure, .op 8 .pure, .op 1 .load, .op 4 .load, .op 7 .load, .op 9 .load, .op 2 .eff, .op 5 .eff, .op 10 .eff, .op 11 .eff, .op 12 .pure, .op 13 .pure, .op 14 .pure, .op 15 .pure, .op 16 .pure]) (.seq .none .none)))
theorem T35_ok : chkFn prog Tryz.f35 T35 = true := by kernel_rfl
def B35 (h_p0 x_p1 : Value) (w : World) (K : Value → World → Prop) : Prop :=
  efv prog (Instr.box 44 h_p0) w fun h_0 w =>
  efv prog (Instr.box 56 x_p1) w fun x_1 w =>
  efv prog (Instr.alloc 44 true (.tuple #[])) w fun t_2 w =>
  dr w fun w =>
  pvv prog (Instr.fieldAt 56 x_1 0) w fun t_3 w =>
  pvv prog (Instr.fieldAt 56 x_1 1) w fun t_4 w =>
  pvv prog (Instr.fieldAt 56 x_1 2) w fun t_5 w =>
  pvv prog (Instr.fieldAt 56 x_1 3) w fun t_6 w =>
  bindS (vN (Instr.loadAt 3 t_3)) fun m_8 => ldv prog (Instr.loadAt 3 t_3) w fun t_7 w =>
  bindS (vN (Instr.loadAt 3 t_4)) fun m_10 => ldv prog (Instr.loadAt 3 t_4) w fun t_9 w =>
  bindS (vN (Instr.loadAt 9 t_5)) fun m_12 => ldv prog (Instr.loadAt 9 t_5) w fun t_11 w =>
  bindS (vN (Instr.loadAt 9 t_6)) fun m_14 => ldv prog (Instr.loadAt 9 t_6) w fun t_13 w =>
  Calls prog 28 #[t_7] w (Ret fun t_15 w => stay prog none m_14 t_13 w <| stay prog none m_12 t_11 w <| stay prog none m_10 t_9 w <| 
  Calls prog 28 #[t_9] w (Ret fun t_16 w => stay prog none m_14 t_13 w <| stay prog none m_12 t_11 w <| stay prog none m_8 t_7 w <| 
  efv prog (Instr.buildSlice 33 4 #[(0, t_15), (1, t_16), (2, t_11), (3, t_13)]) w fun t_17 w => stay prog none m_10 t_9 w <| stay prog none m_8 t_7 w <| 
  Calls prog 47 #[t_17] w (Ret fun t_18 w => stay prog none m_14 t_13 w <| stay prog none m_12 t_11 w <| stay prog none m_10 t_9 w <| stay prog none m_8 t_7 w <| 
  pvv prog (Instr.extract t_18 0) w fun t_19 w =>
  pvv prog (Instr.extract t_18 1) w fun t_20 w =>
  ldv prog (Instr.loadAt 44 h_0) w fun t_21 w =>
  Calls prog 48 #[t_21, t_19] w (Ret fun t_22 w =>
  efu prog (Instr.storeAt 44 t_2 t_22) w fun u_23 w =>
  ∃ r_24, (do loadVar 44 (← asAddr t_2)).run prog w = .ok r_24 w ∧ K r_24 w))))
theorem B35_eq (h_p0 x_p1 : Value) (w : World) (K : Value → World → Prop) : denFn prog Tryz.f35 T35 [h_p0, x_p1] w K = B35 h_p0 x_p1 w K := by kernel_rfl
theorem c35 {h_p0 x_p1 : Value} {w : World} {K : Value → World → Prop} (h : B35 h_p0 x_p1 w K) : Calls prog 35 #[h_p0, x_p1] w (Ret K) :=
  denFn_calls Tryz.func35 T35_ok (Eq.mpr (B35_eq h_p0 x_p1 w K) h)

-- 12 (*holdfast/holdfastref14.Chain).At
def T12 : Ann := (.seq .none (.seq .none (.seq (.seq .none (.block (.loop 67106880 [6] (.seq (.seq .none (.seq .none .none)) (.seq (.block (.draw [.op 1 .pure, .op 2 .pure, .op 3 .pure, .op 5 .pure, .op 0 .load, .op 4 .load, .op 6 .pure, .op 7 .load, .op 8 .eff, .op 9 .eff, .op 10 .eff])) .none))))) (.seq .none .none))))
theorem T12_ok : chkFn prog Tryz.f12 T12 = true := by kernel_rfl
def B12 (c_p0 k_p1 : Value) (w : World) (K : Value → World → Prop) : Prop :=
  efv prog (Instr.alloc 44 true (.tuple #[])) w fun t_0 w =>
  pv prog (oNil c_p0) w fun t_1 w =>
  pvv prog (Instr.fieldAt 54 t_1 3) w fun t_2 w =>
  ldv prog (Instr.loadAt 44 t_2) w fun t_3 w =>
  efv prog (Instr.alloc 44 true (.tuple #[])) w fun h_4 w =>
  efu prog (Instr.storeAt 44 h_4 t_3) w fun u_5 w =>
  lp (fun σ w again_7 => pop σ fun i_6 σ => fin σ <|
    pvv prog (binOp .lss 3 i_6 k_p1) w fun t_8 w =>
    cd t_8 (
      dr w fun w =>
      pv prog (oNil c_p0) w fun t_9 w =>
      pvv prog (Instr.fieldAt 54 t_9 6) w fun t_10 w =>
      bindS (vN (Instr.loadAt 44 h_4)) fun m_12 => ldv prog (Instr.loadAt 44 h_4) w fun t_11 w =>
      bindS (vN (Instr.loadAt 41 t_10)) fun m_14 => ldv prog (Instr.loadAt 41 t_10) w fun t_13 w =>
      pvv prog (Instr.indexAt 41 t_13 i_6) w fun t_15 w =>
      bindS (vN (Instr.loadAt 56 t_15)) fun m_17 => ldv prog (Instr.loadAt 56 t_15) w fun t_16 w =>
      Calls prog 32 #[t_16] w (Ret fun t_18 w => stay prog none m_14 t_13 w <| stay prog none m_12 t_11 w <| 
      Calls prog 31 #[t_11, t_18] w (Ret fun t_19 w => stay prog none m_17 t_16 w <| stay prog none m_14 t_13 w <| 
      efu prog (Instr.storeAt 44 h_4 t_19) w fun u_20 w =>
      pvv prog (binOp .add 3 i_6 (.int .i64 1)) w fun t_21 w =>
      again_7 [t_21] w))) <|
    ldv prog (Instr.loadAt 44 h_4) w fun t_25 w =>
    efu prog (Instr.storeAt 44 t_0 t_25) w fun u_26 w =>
    ∃ r_27, (do loadVar 44 (← asAddr t_0)).run prog w = .ok r_27 w ∧ K r_27 w) [(.int .i64 0)] w
theorem B12_eq (c_p0 k_p1 : Value) (w : World) (K : Value → World → Prop) : denFn prog Tryz.f12 T12 [c_p0, k_p1] w K = B12 c_p0 k_p1 w K := by kernel_rfl
theorem c12 {c_p0 k_p1 : Value} {w : World} {K : Value → World → Prop} (h : B12 c_p0 k_p1 w K) : Calls prog 12 #[c_p0, k_p1] w (Ret K) :=
  denFn_calls Tryz.func12 T12_ok (Eq.mpr (B12_eq c_p0 k_p1 w K) h)

-- 39 holdfast/holdfastref02.Number
def T39 : Ann := (.seq .none (.seq (.seq .none (.seq (.seq .none .none) .none)) (.seq .none (.seq .none (.seq (.block (.loop 33550385 [0, 4, 5] (.seq (.seq .none (.seq .none .none)) (.seq (.block (.seq .none .none)) .none)))) (.seq .none .none))))))
theorem T39_ok : chkFn prog Tryz.f39 T39 = true := by kernel_rfl
def B39 (n_p0 : Value) (w : World) (K : Value → World → Prop) : Prop :=
  pvv prog (binOp .lss 3 n_p0 (.int .i64 0)) w fun t_0 w =>
  gate (some (t_0, false)) (fun K => K n_p0 w) w fun t_1 w =>
  gate (some (t_0, false)) (fun K => pvv prog (binOp .gtr 3 t_1 (.int .i64 4611686018427387904)) w K) w fun t_2 w =>
  pv prog (oPick t_0 (.bool true) t_2) w fun t_3 w =>
  cd t_3 (
    K (.tuple #[(.string ⟨#[]⟩), (.int .i64 2)]) w) <|
  lp (fun σ w again_7 => pop σ fun n_4 σ => pop σ fun s_5 σ => pop σ fun k_6 σ => fin σ <|
    pvv prog (binOp .gtr 3 n_4 (.int .i64 0)) w fun t_8 w =>
    cd t_8 (
      pvv prog (binOp .rem 3 n_4 (.int .i64 16)) w fun t_9 w =>
      Calls prog 49 #[t_9] w (Ret fun t_10 w =>
      efv prog (Instr.buildSlice 74 1 #[(0, t_10)]) w fun t_11 w =>
      efv prog (convert 74 9 t_11) w fun t_12 w =>
      pvv prog (binOp .add 9 t_12 s_5) w fun t_13 w =>
      pvv prog (binOp .add 3 k_6 (.int .i64 1)) w fun t_14 w =>
      pvv prog (binOp .quo 3 n_4 (.int .i64 16)) w fun t_15 w =>
      again_7 [t_15, t_13, t_14] w)) <|
    pvv prog (binOp .add 3 (.int .i64 97) k_6) w fun t_16 w =>
    pvv prog (convert 3 5 t_16) w fun t_17 w =>
    efv prog (Instr.buildSlice 74 1 #[(0, t_17)]) w fun t_18 w =>
    efv prog (convert 74 9 t_18) w fun t_19 w =>
    pvv prog (binOp .add 9 t_19 s_5) w fun t_20 w =>
    K (.tuple #[t_20, (.int .i64 0)]) w) [n_p0, (.string ⟨#[]⟩), (.int .i64 0)] w
theorem B39_eq (n_p0 : Value) (w : World) (K : Value → World → Prop) : denFn prog Tryz.f39 T39 [n_p0] w K = B39 n_p0 w K := by kernel_rfl
theorem c39 {n_p0 : Value} {w : World} {K : Value → World → Prop} (h : B39 n_p0 w K) : Calls prog 39 #[n_p0] w (Ret K) :=
  denFn_calls Tryz.func39 T39_ok (Eq.mpr (B39_eq n_p0 w K) h)

-- 18 (*holdfast/audit.Chain).Anchor
def T18 : Ann := (.seq .none (.seq (.seq .none (.seq (.seq .none .none) .none)) (.seq (.draw [.op 0 .pure, .op 1 .pure, .op 3 .pure, .op 4 .pure, .op 5 .pure, .op 6 .load, .op 2 .eff, .op 7 .pure, .op 8 .pure, .op 9 .pure, .op 10 .eff]) (.seq .none .none))))
theorem T18_ok : chkFn prog Tryz.f18 T18 = true := by kernel_rfl
def B18 (c_p0 : Value) (w : World) (K : Value → World → Prop) : Prop :=
  efv prog (Instr.alloc 44 true (.tuple #[])) w fun t_0 w =>
  pvv prog (oEq .eql 25 (.tmp 4) (.const (.pointer none)) c_p0 (.pointer none)) w fun t_1 w =>
  cd t_1 (
    pvv prog (Instr.build 44 #[]) w fun t_2 w =>
    efu prog (Instr.storeAt 44 t_0 t_2) w fun u_3 w =>
    ∃ r_4, (do loadVar 44 (← asAddr t_0)).run prog w = .ok r_4 w ∧ K (.tuple #[(.int .i64 0), r_4]) w) <|
  dr w fun w =>
  pv prog (oNil c_p0) w fun t_5 w =>
  pvv prog (Instr.fieldAt 52 t_5 2) w fun t_6 w =>
  bindS (vN (Instr.loadAt 44 t_6)) fun m_8 => ldv prog (Instr.loadAt 44 t_6) w fun t_7 w =>
  Calls prog 34 #[c_p0] w (Ret fun t_9 w => stay prog none m_8 t_7 w <| 
  pvv prog (Instr.build 50 #[(0, t_9), (1, t_7)]) w fun t_10 w =>
  pv prog (oNil c_p0) w fun t_11 w =>
  pvv prog (Instr.fieldAt 52 t_11 1) w fun t_12 w =>
  efu prog (Instr.storeAt 50 t_12 t_10) w fun u_13 w =>
  Calls prog 36 #[c_p0] w (Ret fun t_14 w =>
  pvv prog (Instr.extract t_14 0) w fun t_15 w =>
  pvv prog (Instr.extract t_14 1) w fun t_16 w =>
  efu prog (Instr.storeAt 44 t_0 t_16) w fun u_17 w =>
  ∃ r_18, (do loadVar 44 (← asAddr t_0)).run prog w = .ok r_18 w ∧ K (.tuple #[t_15, r_18]) w))
theorem B18_eq (c_p0 : Value) (w : World) (K : Value → World → Prop) : denFn prog Tryz.f18 T18 [c_p0] w K = B18 c_p0 w K := by kernel_rfl
theorem c18 {c_p0 : Value} {w : World} {K : Value → World → Prop} (h : B18 c_p0 w K) : Calls prog 18 #[c_p0] w (Ret K) :=
  denFn_calls Tryz.func18 T18_ok (Eq.mpr (B18_eq c_p0 w K) h)

-- 34 (*holdfast/audit.Chain).Count
def T34 : Ann := (.seq .none (.seq (.seq .none (.seq (.seq .none .none) .none)) (.seq (.draw [.op 0 .pure, .op 1 .pure, .op 2 .pure, .op 3 .pure, .op 5 .pure, .op 6 .pure, .op 7 .pure, .op 4 .load, .op 8 .load, .op 9 .pure, .op 10 .pure, .op 11 .pure]) .none)))
theorem T34_ok : chkFn prog Tryz.f34 T34 = true := by kernel_rfl
def B34 (c_p0 : Value) (w : World) (K : Value → World → Prop) : Prop :=
  pvv prog (oEq .eql 25 (.tmp 3) (.const (.pointer none)) c_p0 (.pointer none)) w fun t_0 w =>
  cd t_0 (
    K (.int .i64 0) w) <|
  dr w fun w =>
  pv prog (oNil c_p0) w fun t_1 w =>
  pvv prog (Instr.fieldAt 52 t_1 0) w fun t_2 w =>
  pvv prog (Instr.fieldAt 50 t_2 0) w fun t_3 w =>
  pv prog (oNil c_p0) w fun t_4 w =>
  pvv prog (Instr.fieldAt 52 t_4 4) w fun t_5 w =>
  bindS (vN (Instr.loadAt 3 t_3)) fun m_7 => ldv prog (Instr.loadAt 3 t_3) w fun t_6 w =>
  bindS (vN (Instr.loadAt 41 t_5)) fun m_9 => ldv prog (Instr.loadAt 41 t_5) w fun t_8 w =>
  pv prog (oBi .len #[41] 3 #[false] #[t_8]) w fun t_10 w =>
  pvv prog (binOp .add 3 t_6 t_10) w fun t_11 w =>
  K t_11 w
theorem B34_eq (c_p0 : Value) (w : World) (K : Value → World → Prop) : denFn prog Tryz.f34 T34 [c_p0] w K = B34 c_p0 w K := by kernel_rfl
theorem c34 {c_p0 : Value} {w : World} {K : Value → World → Prop} (h : B34 c_p0 w K) : Calls prog 34 #[c_p0] w (Ret K) :=
  denFn_calls Tryz.func34 T34_ok (Eq.mpr (B34_eq c_p0 w K) h)

-- 38 (*holdfast/holdfastref14.Chain).Count
def T38 : Ann := (.seq .none (.seq (.seq .none (.seq (.seq .none .none) .none)) (.seq (.draw [.op 0 .pure, .op 1 .pure, .op 2 .pure, .op 4 .pure, .op 5 .pure, .op 6 .pure, .op 3 .load, .op 7 .load, .op 8 .pure, .op 9 .pure, .op 10 .pure]) .none)))
theorem T38_ok : chkFn prog Tryz.f38 T38 = true := by kernel_rfl
def B38 (c_p0 : Value) (w : World) (K : Value → World → Prop) : Prop :=
  pvv prog (oEq .eql 27 (.tmp 3) (.const (.pointer none)) c_p0 (.pointer none)) w fun t_0 w =>
  cd t_0 (
    K (.int .i64 0) w) <|
  dr w fun w =>
  pv prog (oNil c_p0) w fun t_1 w =>
  pvv prog (Instr.fieldAt 54 t_1 0) w fun t_2 w =>
  pv prog (oNil c_p0) w fun t_3 w =>
  pvv prog (Instr.fieldAt 54 t_3 6) w fun t_4 w =>
  bindS (vN (Instr.loadAt 3 t_2)) fun m_6 => ldv prog (Instr.loadAt 3 t_2) w fun t_5 w =>
  bindS (vN (Instr.loadAt 41 t_4)) fun m_8 => ldv prog (Instr.loadAt 41 t_4) w fun t_7 w =>
  pv prog (oBi .len #[41] 3 #[false] #[t_7]) w fun t_9 w =>
  pvv prog (binOp .add 3 t_5 t_9) w fun t_10 w =>
  K t_10 w
theorem B38_eq (c_p0 : Value) (w : World) (K : Value → World → Prop) : denFn prog Tryz.f38 T38 [c_p0] w K = B38 c_p0 w K := by kernel_rfl
theorem c38 {c_p0 : Value} {w : World} {K : Value → World → Prop} (h : B38 c_p0 w K) : Calls prog 38 #[c_p0] w (Ret K) :=
  denFn_calls Tryz.func38 T38_ok (Eq.mpr (B38_eq c_p0 w K) h)

-- 62 strings.trimLeftASCII
def T62 : Ann := (.seq .none (.meet 32737 [0] (.block (.loop 32737 [0] (.seq (.seq .none (.seq .none .none)) (.block (.seq (.seq .none (.seq .none .none)) .none))))) (.seq .none .none)))
theorem T62_ok : chkFn prog Tryz.f62 T62 = true := by kernel_rfl
def B62 (s_p0 as_p1 : Value) (w : World) (K : Value → World → Prop) : Prop :=
  jn (fun σ w => pop σ fun s_0 σ => fin σ <|
    K s_0 w) fun k_1 =>
  lp (fun σ w again_3 => pop σ fun s_2 σ => fin σ <|
    pv prog (oBi .len #[9] 3 #[false] #[s_2]) w fun t_4 w =>
    pvv prog (binOp .gtr 3 t_4 (.int .i64 0)) w fun t_5 w =>
    cd t_5 (
      pvv prog (Instr.index 9 s_2 (.int .i64 0)) w fun t_6 w =>
      Calls prog 73 #[as_p1, t_6] w (Ret fun t_7 w =>
      pvv prog (Op.unary .not t_7) w fun t_8 w =>
      cd t_8 (
        k_1 [s_2] w) <|
      pvv prog (Instr.sliceAt 9 s_2 (some (.int .i64 1)) none none) w fun t_9 w =>
      again_3 [t_9] w)) <|
    k_1 [s_2] w) [s_p0] w
theorem B62_eq (s_p0 as_p1 : Value) (w : World) (K : Value → World → Prop) : denFn prog Tryz.f62 T62 [s_p0, as_p1] w K = B62 s_p0 as_p1 w K := by kernel_rfl
theorem c62 {s_p0 as_p1 : Value} {w : World} {K : Value → World → Prop} (h : B62 s_p0 as_p1 w K) : Calls prog 62 #[s_p0, as_p1] w (Ret K) :=
  denFn_calls Tryz.func62 T62_ok (Eq.mpr (B62_eq s_p0 as_p1 w K) h)

-- 13 (*holdfast/holdfastref14.Chain).Head
def T13 : Ann := (.seq .none (.seq (.seq .none (.seq (.seq .none .none) .none)) (.seq .none .none)))
theorem T13_ok : chkFn prog Tryz.f13 T13 = true := by kernel_rfl
def B13 (c_p0 : Value) (w : World) (K : Value → World → Prop) : Prop :=
  efv prog (Instr.alloc 44 true (.tuple #[])) w fun t_0 w =>
  pvv prog (oEq .eql 27 (.tmp 3) (.const (.pointer none)) c_p0 (.pointer none)) w fun t_1 w =>
  cd t_1 (
    pvv prog (Instr.build 44 #[]) w fun t_2 w =>
    efu prog (Instr.storeAt 44 t_0 t_2) w fun u_3 w =>
    ∃ r_4, (do loadVar 44 (← asAddr t_0)).run prog w = .ok r_4 w ∧ K r_4 w) <|
  pv prog (oNil c_p0) w fun t_5 w =>
  pvv prog (Instr.fieldAt 54 t_5 5) w fun t_6 w =>
  ldv prog (Instr.loadAt 44 t_6) w fun t_7 w =>
  efu prog (Instr.storeAt 44 t_0 t_7) w fun u_8 w =>
  ∃ r_9, (do loadVar 44 (← asAddr t_0)).run prog w = .ok r_9 w ∧ K r_9 w
theorem B13_eq (c_p0 : Value) (w : World) (K : Value → World → Prop) : denFn prog Tryz.f13 T13 [c_p0] w K = B13 c_p0 w K := by kernel_rfl
theorem c13 {c_p0 : Value} {w : World} {K : Value → World → Prop} (h : B13 c_p0 w K) : Calls prog 13 #[c_p0] w (Ret K) :=
  denFn_calls Tryz.func13 T13_ok (Eq.mpr (B13_eq c_p0 w K) h)

-- 104 math/bits.TrailingZeros32
def T104 : Ann := (.seq .none (.seq (.seq .none (.seq (.seq .none .none) .none)) (.seq .none .none)))
theorem T104_ok : chkFn prog Tryz.f104 T104 = true := by kernel_rfl
def B104 (x_p0 : Value) (w : World) (K : Value → World → Prop) : Prop :=
  pvv prog (oEq .eql 100 (.tmp 3) (.const (.int .u32 0)) x_p0 (.int .u32 0)) w fun t_0 w =>
  cd t_0 (
    K (.int .i64 32) w) <|
  pvv prog (Op.unary .neg x_p0) w fun t_1 w =>
  pvv prog (binOp .and 100 x_p0 t_1) w fun t_2 w =>
  pvv prog (binOp .mul 100 t_2 (.int .u32 125613361)) w fun t_3 w =>
  pvv prog (binOp .shr 100 t_3 (.int .u64 27)) w fun t_4 w =>
  pvv prog (Instr.indexAt 43 (.pointer (some ⟨6, 0, none⟩)) t_4) w fun t_5 w =>
  ldv prog (Instr.loadAt 5 t_5) w fun t_6 w =>
  pvv prog (convert 5 3 t_6) w fun t_7 w =>
  K t_7 w
theorem B104_eq (x_p0 : Value) (w : World) (K : Value → World → Prop) : denFn prog Tryz.f104 T104 [x_p0] w K = B104 x_p0 w K := by kernel_rfl
theorem c104 {x_p0 : Value} {w : World} {K : Value → World → Prop} (h : B104 x_p0 w K) : Calls prog 104 #[x_p0] w (Ret K) :=
  denFn_calls Tryz.func104 T104_ok (Eq.mpr (B104_eq x_p0 w K) h)

-- 81 strconv.baseError
def T81 : Ann := (.seq .none (.seq .none .none))
theorem T81_ok : chkFn prog Tryz.f81 T81 = true := by kernel_rfl
def B81 (fn_p0 str_p1 base_p2 : Value) (w : World) (K : Value → World → Prop) : Prop :=
  Calls prog 91 #[str_p1] w (Ret fun t_0 w =>
  Calls prog 93 #[base_p2] w (Ret fun t_1 w =>
  pvv prog (binOp .add 9 (.string ⟨#[105, 110, 118, 97, 108, 105, 100, 32, 98, 97, 115, 101, 32]⟩) t_1) w fun t_2 w =>
  Calls prog 92 #[t_2] w (Ret fun t_3 w =>
  pvv prog (Instr.build 138 #[(0, fn_p0), (1, t_0), (2, t_3)]) w fun t_4 w =>
  efv prog (Instr.box 138 t_4) w fun t_5 w =>
  K t_5 w)))
theorem B81_eq (fn_p0 str_p1 base_p2 : Value) (w : World) (K : Value → World → Prop) : denFn prog Tryz.f81 T81 [fn_p0, str_p1, base_p2] w K = B81 fn_p0 str_p1 base_p2 w K := by kernel_rfl
theorem c81 {fn_p0 str_p1 base_p2 : Value} {w : World} {K : Value → World → Prop} (h : B81 fn_p0 str_p1 base_p2 w K) : Calls prog 81 #[fn_p0, str_p1, base_p2] w (Ret K) :=
  denFn_calls Tryz.func81 T81_ok (Eq.mpr (B81_eq fn_p0 str_p1 base_p2 w K) h)

-- 87 math/bits.RotateLeft32
def T87 : Ann := (.seq .none (.seq .none (.seq .none .none)))
theorem T87_ok : chkFn prog Tryz.f87 T87 = true := by kernel_rfl
def B87 (x_p0 k_p1 : Value) (w : World) (K : Value → World → Prop) : Prop :=
  pvv prog (convert 3 103 k_p1) w fun t_0 w =>
  pvv prog (binOp .and 103 t_0 (.int .u64 31)) w fun t_1 w =>
  pvv prog (binOp .shl 100 x_p0 t_1) w fun t_2 w =>
  pvv prog (binOp .sub 103 (.int .u64 32) t_1) w fun t_3 w =>
  pvv prog (binOp .shr 100 x_p0 t_3) w fun t_4 w =>
  pvv prog (binOp .or 100 t_2 t_4) w fun t_5 w =>
  K t_5 w
theorem B87_eq (x_p0 k_p1 : Value) (w : World) (K : Value → World → Prop) : denFn prog Tryz.f87 T87 [x_p0, k_p1] w K = B87 x_p0 k_p1 w K := by kernel_rfl
theorem c87 {x_p0 k_p1 : Value} {w : World} {K : Value → World → Prop} (h : B87 x_p0 k_p1 w K) : Calls prog 87 #[x_p0, k_p1] w (Ret K) :=
  denFn_calls Tryz.func87 T87_ok (Eq.mpr (B87_eq x_p0 k_p1 w K) h)

-- 68 internal/stringslite.TrimPrefix
def T68 : Ann := (.seq .none (.seq (.seq .none (.seq (.seq .none .none) .none)) (.seq .none .none)))
theorem T68_ok : chkFn prog Tryz.f68 T68 = true := by kernel_rfl
def B68 (s_p0 prefix_p1 : Value) (w : World) (K : Value → World → Prop) : Prop :=
  Calls prog 58 #[s_p0, prefix_p1] w (Ret fun t_0 w =>
  cd t_0 (
    pv prog (oBi .len #[9] 3 #[false] #[prefix_p1]) w fun t_1 w =>
    pvv prog (Instr.sliceAt 9 s_p0 (some t_1) none none) w fun t_2 w =>
    K t_2 w) <|
  K s_p0 w)
theorem B68_eq (s_p0 prefix_p1 : Value) (w : World) (K : Value → World → Prop) : denFn prog Tryz.f68 T68 [s_p0, prefix_p1] w K = B68 s_p0 prefix_p1 w K := by kernel_rfl
theorem c68 {s_p0 prefix_p1 : Value} {w : World} {K : Value → World → Prop} (h : B68 s_p0 prefix_p1 w K) : Calls prog 68 #[s_p0, prefix_p1] w (Ret K) :=
  denFn_calls Tryz.func68 T68_ok (Eq.mpr (B68_eq s_p0 prefix_p1 w K) h)

-- 92 errors.New
def T92 : Ann := (.seq .none (.seq .none .none))
theorem T92_ok : chkFn prog Tryz.f92 T92 = true := by kernel_rfl
def B92 (text_p0 : Value) (w : World) (K : Value → World → Prop) : Prop :=
  pvv prog (Instr.build 156 #[(0, text_p0)]) w fun t_0 w =>
  efv prog (Instr.box 156 t_0) w fun t_1 w =>
  pvv prog (Instr.makeInterface 154 t_1) w fun t_2 w =>
  K t_2 w
theorem B92_eq (text_p0 : Value) (w : World) (K : Value → World → Prop) : denFn prog Tryz.f92 T92 [text_p0] w K = B92 text_p0 w K := by kernel_rfl
theorem c92 {text_p0 : Value} {w : World} {K : Value → World → Prop} (h : B92 text_p0 w K) : Calls prog 92 #[text_p0] w (Ret K) :=
  denFn_calls Tryz.func92 T92_ok (Eq.mpr (B92_eq text_p0 w K) h)

-- 28 holdfast/audit.number
def T28 : Ann := (.seq .none (.seq .none (.seq .none .none)))
theorem T28_ok : chkFn prog Tryz.f28 T28 = true := by kernel_rfl
def B28 (n_p0 : Value) (w : World) (K : Value → World → Prop) : Prop :=
  Calls prog 42 #[n_p0] w (Ret fun t_0 w =>
  pvv prog (Instr.extract t_0 0) w fun t_1 w =>
  pvv prog (Instr.extract t_0 1) w fun t_2 w =>
  K t_1 w)
theorem B28_eq (n_p0 : Value) (w : World) (K : Value → World → Prop) : denFn prog Tryz.f28 T28 [n_p0] w K = B28 n_p0 w K := by kernel_rfl
theorem c28 {n_p0 : Value} {w : World} {K : Value → World → Prop} (h : B28 n_p0 w K) : Calls prog 28 #[n_p0] w (Ret K) :=
  denFn_calls Tryz.func28 T28_ok (Eq.mpr (B28_eq n_p0 w K) h)

-- 106 internal/stringslite.IndexByte
def T106 : Ann := (.seq .none (.seq .none .none))
theorem T106_ok : chkFn prog Tryz.f106 T106 = true := by kernel_rfl
def B106 (s_p0 c_p1 : Value) (w : World) (K : Value → World → Prop) : Prop :=
  ef prog (oCall (.func (.func 107) #[] #[]) #[s_p0, c_p1]) w fun t_0 w =>
  K t_0 w
theorem B106_eq (s_p0 c_p1 : Value) (w : World) (K : Value → World → Prop) : denFn prog Tryz.f106 T106 [s_p0, c_p1] w K = B106 s_p0 c_p1 w K := by kernel_rfl
theorem c106 {s_p0 c_p1 : Value} {w : World} {K : Value → World → Prop} (h : B106 s_p0 c_p1 w K) : Calls prog 106 #[s_p0, c_p1] w (Ret K) :=
  denFn_calls Tryz.func106 T106_ok (Eq.mpr (B106_eq s_p0 c_p1 w K) h)

-- 53 strings.TrimPrefix
def T53 : Ann := (.seq .none (.seq .none .none))
theorem T53_ok : chkFn prog Tryz.f53 T53 = true := by kernel_rfl
def B53 (s_p0 prefix_p1 : Value) (w : World) (K : Value → World → Prop) : Prop :=
  Calls prog 68 #[s_p0, prefix_p1] w (Ret fun t_0 w =>
  K t_0 w)
theorem B53_eq (s_p0 prefix_p1 : Value) (w : World) (K : Value → World → Prop) : denFn prog Tryz.f53 T53 [s_p0, prefix_p1] w K = B53 s_p0 prefix_p1 w K := by kernel_rfl
theorem c53 {s_p0 prefix_p1 : Value} {w : World} {K : Value → World → Prop} (h : B53 s_p0 prefix_p1 w K) : Calls prog 53 #[s_p0, prefix_p1] w (Ret K) :=
  denFn_calls Tryz.func53 T53_ok (Eq.mpr (B53_eq s_p0 prefix_p1 w K) h)

-- 103 internal/strconv.Itoa
def T103 : Ann := (.seq .none (.seq .none .none))
theorem T103_ok : chkFn prog Tryz.f103 T103 = true := by kernel_rfl
def B103 (i_p0 : Value) (w : World) (K : Value → World → Prop) : Prop :=
  Calls prog 69 #[i_p0, (.int .i64 10)] w (Ret fun t_0 w =>
  K t_0 w)
theorem B103_eq (i_p0 : Value) (w : World) (K : Value → World → Prop) : denFn prog Tryz.f103 T103 [i_p0] w K = B103 i_p0 w K := by kernel_rfl
theorem c103 {i_p0 : Value} {w : World} {K : Value → World → Prop} (h : B103 i_p0 w K) : Calls prog 103 #[i_p0] w (Ret K) :=
  denFn_calls Tryz.func103 T103_ok (Eq.mpr (B103_eq i_p0 w K) h)

-- 77 internal/strconv.lower
def T77 : Ann := (.seq .none (.seq .none .none))
theorem T77_ok : chkFn prog Tryz.f77 T77 = true := by kernel_rfl
def B77 (c_p0 : Value) (w : World) (K : Value → World → Prop) : Prop :=
  pvv prog (binOp .or 5 c_p0 (.int .u8 32)) w fun t_0 w =>
  K t_0 w
theorem B77_eq (c_p0 : Value) (w : World) (K : Value → World → Prop) : denFn prog Tryz.f77 T77 [c_p0] w K = B77 c_p0 w K := by kernel_rfl
theorem c77 {c_p0 : Value} {w : World} {K : Value → World → Prop} (h : B77 c_p0 w K) : Calls prog 77 #[c_p0] w (Ret K) :=
  denFn_calls Tryz.func77 T77_ok (Eq.mpr (B77_eq c_p0 w K) h)


end Go.Proofs.YtjeiojibnmfibaaGreatDoor
