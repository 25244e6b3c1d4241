import Derived.Test.YtfaeklinhchidaaGreatPI
set_option linter.all false
set_option maxRecDepth 100000
namespace Go.Proofs.YtfaeklinhchidaaGreat
open Go Hold
-- 85 (*holdfast/tree.change).mend
def T85 : Ann := (.seq .none (.seq (.seq .none (.seq (.seq .none .none) .none)) (.seq .none (.seq (.draw [.op 0 .pure, .op 2 .pure, .op 5 .pure, .op 7 .pure, .op 8 .pure, .op 1 .load, .op 3 .pure, .op 4 .load, .op 6 .load, .op 9 .pure, .op 10 .load, .par [⟨11, .eff, (some 7), []⟩, ⟨12, .eff, (some 8), []⟩], .op 13 .eff, .op 14 .eff]) (.seq (.draw [.op 0 .pure, .op 1 .pure, .op 4 .pure, .op 5 .pure, .op 2 .load, .op 6 .load, .par [⟨3, .eff, (some 51), []⟩, ⟨8, .eff, (some 9), []⟩, ⟨9, .eff, (some 10), []⟩, ⟨7, .eff, (some 55), []⟩], .op 10 .eff, .op 11 .eff]) (.meet 590223752764667723776 [] (.seq .none (.seq (.seq .none .none) .none)) (.seq (.draw [.op 0 .pure, .op 2 .pure, .op 4 .pure, .op 1 .load, .op 3 .load, .op 5 .load, .par [⟨6, .eff, (some 75), []⟩, ⟨9, .eff, (some 11), []⟩, ⟨7, .eff, (some 76), [(0, some 75)]⟩, ⟨8, .pure, (some 77), [(2, some 76)]⟩], .op 10 .eff]) (.seq (.seq .none (.seq (.seq .none (.seq (.draw [.op 0 .pure, .op 1 .pure, .op 2 .pure, .op 4 .pure, .op 3 .load, .op 5 .load, .op 6 .load, .op 7 .eff, .op 8 .eff]) (.seq .none .none))) .none)) (.seq .none (.seq (.draw [.op 0 .pure, .op 2 .pure, .op 3 .pure, .op 5 .pure, .op 7 .pure, .op 1 .load, .op 4 .pure, .op 9 .pure, .op 6 .load, .op 8 .pure, .op 10 .eff, .op 11 .pure, .op 12 .eff]) (.seq (.draw [.op 0 .pure, .op 1 .pure, .op 2 .pure, .op 4 .pure, .op 6 .pure, .op 7 .pure, .op 8 .pure, .op 10 .pure, .op 3 .load, .op 5 .load, .op 9 .load, .op 11 .load, .op 12 .load, .op 14 .load, .op 13 .eff, .op 15 .eff, .op 16 .eff, .op 17 .pure, .op 18 .eff, .op 19 .eff, .op 20 .pure, .op 21 .eff]) (.seq .none (.seq .none (.seq .none .none))))))))))))))
theorem T85_ok : chkFn prog Tryz.f85 T85 = true := by kernel_rfl
def B85 (c_p0 n_p1 i_p2 : Value) (w : World) (K : Value → World → Prop) : Prop :=
  efv prog (Instr.box 63 n_p1) w fun n_0 w =>
  efv prog (Instr.alloc 63 true (.tuple #[])) w fun t_1 w =>
  pvv prog (Instr.fieldAt 63 n_0 1) w fun t_2 w =>
  ldv prog (Instr.loadAt 61 t_2) w fun t_3 w =>
  pv prog (oBi .len #[61] 3 #[false] #[t_3]) w fun t_4 w =>
  pvv prog (binOp .lss 3 t_4 (.int .i64 2)) w fun t_5 w =>
  gate (some (t_5, false)) (fun K => K c_p0 w) w fun t_6 w =>
  gate (some (t_5, false)) (fun K => pvv prog (Instr.fieldAt 63 n_0 1) w K) w fun t_7 w =>
  gate (some (t_5, false)) (fun K => ldv prog (Instr.loadAt 61 t_7) w K) w fun t_8 w =>
  gate (some (t_5, false)) (fun K => K i_p2 w) w fun t_9 w =>
  gate (some (t_5, false)) (fun K => pvv prog (Instr.indexAt 61 t_8 t_9) w K) w fun t_10 w =>
  gate (some (t_5, false)) (fun K => pvv prog (Instr.fieldAt 67 t_10 2) w K) w fun t_11 w =>
  gate (some (t_5, false)) (fun K => ldv prog (Instr.loadAt 3 t_11) w K) w fun t_12 w =>
  gate (some (t_5, false)) (fun K => Calls prog 52 #[t_6, t_12] w (Ret K)) w fun t_13 w =>
  gate (some (t_5, false)) (fun K => Calls prog 61 #[t_13] w (Ret K)) w fun t_14 w =>
  gate (some (t_5, false)) (fun K => pvv prog (Op.unary .not t_14) w K) w fun t_15 w =>
  pv prog (oPick t_5 (.bool true) t_15) w fun t_16 w =>
  cd t_16 (
    ldv prog (Instr.loadAt 63 n_0) w fun t_17 w =>
    efu prog (Instr.storeAt 63 t_1 t_17) w fun u_18 w =>
    ∃ r_19, (do loadVar 63 (← asAddr t_1)).run prog w = .ok r_19 w ∧ K r_19 w) <|
  pvv prog (Instr.fieldAt 63 n_0 1) w fun t_20 w =>
  ldv prog (Instr.loadAt 61 t_20) w fun t_21 w =>
  pv prog (oBi .len #[61] 3 #[false] #[t_21]) w fun t_22 w =>
  pvv prog (binOp .sub 3 t_22 (.int .i64 2)) w fun t_23 w =>
  pv prog (oBi .min #[3, 3] 3 #[false, false] #[i_p2, t_23]) w fun t_24 w =>
  dr w fun w =>
  pvv prog (Instr.fieldAt 63 n_0 1) w fun t_25 w =>
  pvv prog (Instr.fieldAt 63 n_0 1) w fun t_26 w =>
  pvv prog (binOp .add 3 t_24 (.int .i64 1)) w fun t_27 w =>
  bindS (vN (Instr.loadAt 61 t_25)) fun m_29 => ldv prog (Instr.loadAt 61 t_25) w fun t_28 w =>
  pvv prog (Instr.indexAt 61 t_28 t_24) w fun t_30 w =>
  bindS (vN (Instr.loadAt 67 t_30)) fun m_32 => ldv prog (Instr.loadAt 67 t_30) w fun t_31 w =>
  bindS (vN (Instr.loadAt 61 t_26)) fun m_34 => ldv prog (Instr.loadAt 61 t_26) w fun t_33 w =>
  pvv prog (Instr.indexAt 61 t_33 t_27) w fun t_35 w =>
  bindS (vN (Instr.loadAt 67 t_35)) fun m_37 => ldv prog (Instr.loadAt 67 t_35) w fun t_36 w =>
  par 2 w fun J_38 =>
    (∀ (σ : List (Option Value)) (w : World), J_38 σ w → un σ 0 (efv prog (Instr.alloc 67 true (.tuple #[])) w fun v_39 w => stay prog none m_37 t_36 w <| stay prog none m_34 t_33 w <| stay prog none m_32 t_31 w <| stay prog none m_29 t_28 w <| J_38 (σ.set 0 (some v_39)) w)) ∧
    (∀ (σ : List (Option Value)) (w : World), J_38 σ w → un σ 1 (efv prog (Instr.alloc 67 true (.tuple #[])) w fun v_40 w => stay prog none m_37 t_36 w <| stay prog none m_34 t_33 w <| stay prog none m_32 t_31 w <| stay prog none m_29 t_28 w <| J_38 (σ.set 1 (some v_40)) w)) ∧
    ∀ (σ : List (Option Value)) (w : World), J_38 σ w → is σ 0 fun a_41 => is σ 1 fun b_42 => 
    efu prog (Instr.storeAt 67 a_41 t_31) w fun u_43 w => stay prog none m_37 t_36 w <| stay prog none m_34 t_33 w <| 
    efu prog (Instr.storeAt 67 b_42 t_36) w fun u_44 w =>
    dr w fun w =>
    pvv prog (Instr.fieldAt 67 a_41 2) w fun t_45 w =>
    pvv prog (Instr.fieldAt 67 b_42 2) w fun t_46 w =>
    bindS (vN (Instr.loadAt 3 t_45)) fun m_48 => ldv prog (Instr.loadAt 3 t_45) w fun t_47 w =>
    bindS (vN (Instr.loadAt 3 t_46)) fun m_50 => ldv prog (Instr.loadAt 3 t_46) w fun t_49 w =>
    par 4 w fun J_51 =>
      (∀ (σ : List (Option Value)) (w : World), J_51 σ w → un σ 0 (Calls prog 52 #[c_p0, t_47] w (Ret fun v_52 w => stay prog none m_50 t_49 w <| J_51 (σ.set 0 (some v_52)) w))) ∧
      (∀ (σ : List (Option Value)) (w : World), J_51 σ w → un σ 1 (efv prog (Instr.alloc 63 true (.tuple #[])) w fun v_53 w => stay prog none m_50 t_49 w <| stay prog none m_48 t_47 w <| J_51 (σ.set 1 (some v_53)) w)) ∧
      (∀ (σ : List (Option Value)) (w : World), J_51 σ w → un σ 2 (efv prog (Instr.alloc 63 true (.tuple #[])) w fun v_54 w => stay prog none m_50 t_49 w <| stay prog none m_48 t_47 w <| J_51 (σ.set 2 (some v_54)) w)) ∧
      (∀ (σ : List (Option Value)) (w : World), J_51 σ w → un σ 3 (Calls prog 52 #[c_p0, t_49] w (Ret fun v_55 w => stay prog none m_48 t_47 w <| J_51 (σ.set 3 (some v_55)) w))) ∧
      ∀ (σ : List (Option Value)) (w : World), J_51 σ w → is σ 0 fun t_56 => is σ 1 fun left_57 => is σ 2 fun right_58 => is σ 3 fun t_59 => 
      efu prog (Instr.storeAt 63 left_57 t_56) w fun u_60 w => stay prog none m_50 t_49 w <| 
      efu prog (Instr.storeAt 63 right_58 t_59) w fun u_61 w =>
      jn (fun σ w => fin σ <|
        dr w fun w =>
        pvv prog (Instr.fieldAt 63 left_57 0) w fun t_62 w =>
        pvv prog (Instr.fieldAt 63 left_57 1) w fun t_63 w =>
        pvv prog (Instr.fieldAt 63 right_58 1) w fun t_64 w =>
        bindS (vN (Instr.loadAt 4 t_62)) fun m_66 => ldv prog (Instr.loadAt 4 t_62) w fun t_65 w =>
        bindS (vN (Instr.loadAt 61 t_63)) fun m_68 => ldv prog (Instr.loadAt 61 t_63) w fun t_67 w =>
        bindS (vN (Instr.loadAt 61 t_64)) fun m_70 => ldv prog (Instr.loadAt 61 t_64) w fun t_69 w =>
        par 4 w fun J_71 =>
          (∀ (σ : List (Option Value)) (w : World), J_71 σ w → un σ 0 (efv prog (Instr.buildSlice 204 2 #[(0, t_67), (1, t_69)]) w fun v_72 w => stay prog none m_66 t_65 w <| J_71 (σ.set 0 (some v_72)) w)) ∧
          (∀ (σ : List (Option Value)) (w : World), J_71 σ w → un σ 1 (efv prog (Instr.alloc 63 true (.tuple #[])) w fun v_73 w => stay prog none m_70 t_69 w <| stay prog none m_68 t_67 w <| stay prog none m_66 t_65 w <| J_71 (σ.set 1 (some v_73)) w)) ∧
          (∀ (σ : List (Option Value)) (w : World), J_71 σ w → un σ 2 (is σ 0 fun t_74 => Calls prog 120 #[t_74] w (Ret fun v_75 w => stay prog none m_70 t_69 w <| stay prog none m_68 t_67 w <| stay prog none m_66 t_65 w <| J_71 (σ.set 2 (some v_75)) w))) ∧
          (∀ (σ : List (Option Value)) (w : World), J_71 σ w → un σ 3 (is σ 2 fun t_76 => pvv prog (Instr.build 63 #[(0, t_65), (1, t_76)]) w fun v_77 w => J_71 (σ.set 3 (some v_77)) w)) ∧
          ∀ (σ : List (Option Value)) (w : World), J_71 σ w → is σ 0 fun t_78 => is σ 1 fun both_79 => is σ 2 fun t_80 => is σ 3 fun t_81 => 
          efu prog (Instr.storeAt 63 both_79 t_81) w fun u_82 w =>
          ldv prog (Instr.loadAt 63 both_79) w fun t_83 w =>
          Calls prog 62 #[t_83] w (Ret fun t_84 w =>
          pvv prog (binOp .leq 3 t_84 (.int .i64 253)) w fun t_85 w =>
          cd t_85 (
            pvv prog (Instr.fieldAt 67 b_42 2) w fun t_86 w =>
            ldv prog (Instr.loadAt 3 t_86) w fun t_87 w =>
            Calls prog 53 #[c_p0, t_87] w (Ret fun t_88 w =>
            dr w fun w =>
            pv prog (oNil c_p0) w fun t_89 w =>
            pvv prog (Instr.fieldAt 124 t_89 2) w fun t_90 w =>
            pvv prog (Instr.fieldAt 67 a_41 2) w fun t_91 w =>
            bindS (vN (Instr.loadAt 117 t_90)) fun m_93 => ldv prog (Instr.loadAt 117 t_90) w fun t_92 w =>
            bindS (vN (Instr.loadAt 3 t_91)) fun m_95 => ldv prog (Instr.loadAt 3 t_91) w fun t_94 w =>
            bindS (vN (Instr.loadAt 63 both_79)) fun m_97 => ldv prog (Instr.loadAt 63 both_79) w fun t_96 w =>
            Calls prog 50 #[t_96] w (Ret fun t_98 w => stay prog none m_95 t_94 w <| stay prog none m_93 t_92 w <| 
            efu prog (Instr.mapUpdate 117 t_92 t_94 t_98) w fun u_99 w =>
            pvv prog (Instr.fieldAt 63 n_0 1) w fun t_100 w =>
            ldv prog (Instr.loadAt 61 t_100) w fun t_101 w =>
            Calls prog 84 #[t_101] w (Ret fun t_102 w =>
            pvv prog (binOp .add 3 t_24 (.int .i64 1)) w fun t_103 w =>
            pvv prog (binOp .add 3 t_24 (.int .i64 2)) w fun t_104 w =>
            Calls prog 32 #[t_102, t_103, t_104] w (Ret fun t_105 w =>
            pvv prog (Instr.build 63 #[(0, (.bool false)), (1, t_105)]) w fun t_106 w =>
            efu prog (Instr.storeAt 63 t_1 t_106) w fun u_107 w =>
            ∃ r_108, (do loadVar 63 (← asAddr t_1)).run prog w = .ok r_108 w ∧ K r_108 w))))) <|
          ldv prog (Instr.loadAt 63 both_79) w fun t_111 w =>
          Calls prog 118 #[t_111] w (Ret fun t_112 w =>
          dr w fun w =>
          pvv prog (Instr.fieldAt 63 both_79 1) w fun t_113 w =>
          pvv prog (Instr.fieldAt 63 both_79 1) w fun t_114 w =>
          bindS (vN (Instr.loadAt 61 t_113)) fun m_116 => ldv prog (Instr.loadAt 61 t_113) w fun t_115 w =>
          pvv prog (Instr.sliceAt 61 t_115 none (some t_112) (some t_112)) w fun t_117 w =>
          pvv prog (Instr.fieldAt 63 left_57 1) w fun t_118 w =>
          bindS (vN (Instr.loadAt 61 t_114)) fun m_120 => ldv prog (Instr.loadAt 61 t_114) w fun t_119 w =>
          pvv prog (Instr.sliceAt 61 t_119 (some t_112) none none) w fun t_121 w =>
          efu prog (Instr.storeAt 61 t_118 t_117) w fun u_122 w => stay prog none m_120 t_119 w <| 
          pvv prog (Instr.fieldAt 63 right_58 1) w fun t_123 w =>
          efu prog (Instr.storeAt 61 t_123 t_121) w fun u_124 w =>
          dr w fun w =>
          pv prog (oNil c_p0) w fun t_125 w =>
          pvv prog (Instr.fieldAt 124 t_125 2) w fun t_126 w =>
          pvv prog (Instr.fieldAt 67 a_41 2) w fun t_127 w =>
          pv prog (oNil c_p0) w fun t_128 w =>
          pvv prog (Instr.fieldAt 124 t_128 2) w fun t_129 w =>
          pvv prog (Instr.fieldAt 67 b_42 2) w fun t_130 w =>
          bindS (vN (Instr.loadAt 117 t_126)) fun m_132 => ldv prog (Instr.loadAt 117 t_126) w fun t_131 w =>
          bindS (vN (Instr.loadAt 3 t_127)) fun m_134 => ldv prog (Instr.loadAt 3 t_127) w fun t_133 w =>
          bindS (vN (Instr.loadAt 117 t_129)) fun m_136 => ldv prog (Instr.loadAt 117 t_129) w fun t_135 w =>
          bindS (vN (Instr.loadAt 3 t_130)) fun m_138 => ldv prog (Instr.loadAt 3 t_130) w fun t_137 w =>
          bindS (vN (Instr.loadAt 63 left_57)) fun m_140 => ldv prog (Instr.loadAt 63 left_57) w fun t_139 w =>
          bindS (vN (Instr.loadAt 63 right_58)) fun m_142 => ldv prog (Instr.loadAt 63 right_58) w fun t_141 w =>
          Calls prog 50 #[t_139] w (Ret fun t_143 w => stay prog none m_142 t_141 w <| stay prog none m_138 t_137 w <| stay prog none m_136 t_135 w <| stay prog none m_134 t_133 w <| stay prog none m_132 t_131 w <| 
          Calls prog 50 #[t_141] w (Ret fun t_144 w => stay prog none m_140 t_139 w <| stay prog none m_138 t_137 w <| stay prog none m_136 t_135 w <| stay prog none m_134 t_133 w <| stay prog none m_132 t_131 w <| 
          efv prog (Instr.mapEntry 117 t_131 t_133) w fun t_145 w => stay prog none m_142 t_141 w <| stay prog none m_140 t_139 w <| stay prog none m_138 t_137 w <| 
          pvv prog (Instr.extract t_145 1) w fun t_146 w =>
          efu prog (Instr.entryStore 117 t_131 t_146 t_143) w fun u_147 w => stay prog none m_142 t_141 w <| stay prog none m_138 t_137 w <| 
          efv prog (Instr.mapEntry 117 t_135 t_137) w fun t_148 w => stay prog none m_142 t_141 w <| 
          pvv prog (Instr.extract t_148 1) w fun t_149 w =>
          efu prog (Instr.entryStore 117 t_135 t_149 t_144) w fun u_150 w =>
          pvv prog (Instr.fieldAt 63 n_0 1) w fun t_151 w =>
          ldv prog (Instr.loadAt 61 t_151) w fun t_152 w =>
          Calls prog 84 #[t_152] w (Ret fun t_153 w =>
          pvv prog (binOp .add 3 t_24 (.int .i64 1)) w fun t_154 w =>
          pvv prog (Instr.fieldAt 63 right_58 1) w fun t_155 w =>
          ldv prog (Instr.loadAt 61 t_155) w fun t_156 w =>
          pvv prog (Instr.indexAt 61 t_156 (.int .i64 0)) w fun t_157 w =>
          pvv prog (Instr.fieldAt 67 t_157 0) w fun t_158 w =>
          ldv prog (Instr.loadAt 22 t_158) w fun t_159 w =>
          pvv prog (Instr.indexAt 61 t_153 t_154) w fun t_160 w =>
          pvv prog (Instr.fieldAt 67 t_160 0) w fun t_161 w =>
          efu prog (Instr.storeAt 22 t_161 t_159) w fun u_162 w =>
          pvv prog (Instr.build 63 #[(0, (.bool false)), (1, t_153)]) w fun t_163 w =>
          efu prog (Instr.storeAt 63 t_1 t_163) w fun u_164 w =>
          ∃ r_165, (do loadVar 63 (← asAddr t_1)).run prog w = .ok r_165 w ∧ K r_165 w)))))) fun k_175 =>
      pvv prog (Instr.fieldAt 63 right_58 0) w fun t_176 w =>
      ldv prog (Instr.loadAt 4 t_176) w fun t_177 w =>
      pvv prog (Op.unary .not t_177) w fun t_178 w =>
      cd t_178 (
        pvv prog (Instr.fieldAt 63 right_58 1) w fun t_179 w =>
        ldv prog (Instr.loadAt 61 t_179) w fun t_180 w =>
        Calls prog 84 #[t_180] w (Ret fun t_181 w =>
        pvv prog (Instr.fieldAt 63 right_58 1) w fun t_182 w =>
        efu prog (Instr.storeAt 61 t_182 t_181) w fun u_183 w =>
        pvv prog (Instr.fieldAt 63 right_58 1) w fun t_184 w =>
        ldv prog (Instr.loadAt 61 t_184) w fun t_185 w =>
        pvv prog (Instr.fieldAt 67 b_42 0) w fun t_186 w =>
        ldv prog (Instr.loadAt 22 t_186) w fun t_187 w =>
        pvv prog (Instr.indexAt 61 t_185 (.int .i64 0)) w fun t_188 w =>
        pvv prog (Instr.fieldAt 67 t_188 0) w fun t_189 w =>
        efu prog (Instr.storeAt 22 t_189 t_187) w fun u_190 w =>
        k_175 [] w)) <|
      k_175 [] w
theorem B85_eq (c_p0 n_p1 i_p2 : Value) (w : World) (K : Value → World → Prop) : denFn prog Tryz.f85 T85 [c_p0, n_p1, i_p2] w K = B85 c_p0 n_p1 i_p2 w K := by kernel_rfl
theorem c85 {c_p0 n_p1 i_p2 : Value} {w : World} {K : Value → World → Prop} (h : B85 c_p0 n_p1 i_p2 w K) : Calls prog 85 #[c_p0, n_p1, i_p2] w (Ret K) :=
  denFn_calls Tryz.func85 T85_ok (Eq.mpr (B85_eq c_p0 n_p1 i_p2 w K) h)

-- 3 holdfast/holdfasttop.TopSpace
def T3 : Ann := (.seq .none (.seq .none (.seq (.seq .none (.seq (.seq .none .none) .none)) (.seq .none (.seq (.seq .none (.block (.loop 10633823966279326983230456482225995664 [7, 8] (.seq (.seq .none (.seq .none .none)) (.seq (.block (.seq (.seq .none (.block (.loop 72057589742961168 [9] (.seq (.seq .none (.seq .none .none)) (.seq (.block (.seq (.draw [.op 0 .pure, .op 1 .pure, .op 2 .pure, .op 3 .pure, .op 4 .load, .par [⟨5, .eff, (some 47), []⟩, ⟨6, .eff, (some 48), []⟩], .op 7 .eff, .op 8 .pure, .op 9 .pure, .op 10 .pure, .op 11 .eff, .op 12 .pure, .op 13 .pure]) (.seq (.seq .none .none) .none))) .none))))) (.seq .none (.seq (.seq .none (.seq (.seq .none .none) .none)) (.meet 4797924346595559537115264 [7] (.seq .none (.seq .none .none)) (.seq (.seq .none (.block (.loop 1298074209798003628674107383492624 [12] (.seq (.seq .none (.seq .none .none)) (.seq (.block (.seq .none (.seq .none (.seq (.seq .none .none) .none)))) .none))))) (.seq .none (.seq .none (.seq (.seq .none .none) .none))))))))) .none))))) (.seq .none .none))))))
theorem T3_ok : chkFn prog Tryz.f3 T3 = true := by kernel_rfl
def B3 (l_p0 rounds_p1 : Value) (w : World) (K : Value → World → Prop) : Prop :=
  Calls prog 5 #[(.int .i64 400), (.int .i64 110)] w (Ret fun t_0 w =>
  pvv prog (Instr.extract t_0 0) w fun t_1 w =>
  pvv prog (Instr.extract t_0 1) w fun t_2 w =>
  pvv prog (oEq .neq 24 (.tmp 18) (.const (.int .i64 0)) t_2 (.int .i64 0)) w fun t_3 w =>
  gate (some (t_3, false)) (fun K => K t_1 w) w fun t_4 w =>
  gate (some (t_3, false)) (fun K => pvv prog (oEq .eql 23 (.tmp 21) (.const (.pointer none)) t_4 (.pointer none)) w K) w fun t_5 w =>
  pv prog (oPick t_3 (.bool true) t_5) w fun t_6 w =>
  cd t_6 (
    K (.bool false) w) <|
  lp (fun σ w again_9 => pop σ fun most_7 σ => pop σ fun r_8 σ => fin σ <|
    pvv prog (convert 5 3 rounds_p1) w fun t_10 w =>
    pvv prog (binOp .rem 3 t_10 (.int .i64 5)) w fun t_11 w =>
    pvv prog (binOp .add 3 t_11 (.int .i64 1)) w fun t_12 w =>
    pvv prog (binOp .lss 3 r_8 t_12) w fun t_13 w =>
    cd t_13 (
      lp (fun σ w again_15 => pop σ fun i_14 σ => fin σ <|
        pv prog (oBi .len #[22] 3 #[false] #[l_p0]) w fun t_16 w =>
        pvv prog (binOp .lss 3 i_14 t_16) w fun t_17 w =>
        gate (some (t_17, true)) (fun K => K i_14 w) w fun t_18 w =>
        gate (some (t_17, true)) (fun K => pvv prog (binOp .lss 3 t_18 (.int .i64 40)) w K) w fun t_19 w =>
        pv prog (oPick t_17 t_19 (.bool false)) w fun t_20 w =>
        cd t_20 (
          dr w fun w =>
          pvv prog (Instr.indexAt 22 l_p0 i_14) w fun t_21 w =>
          bindS (vN (Instr.loadAt 5 t_21)) fun m_23 => ldv prog (Instr.loadAt 5 t_21) w fun t_22 w =>
          par 2 w fun J_24 =>
            (∀ (σ : List (Option Value)) (w : World), J_24 σ w → un σ 0 (efv prog (Instr.buildSlice 22 2 #[(0, t_22), (1, (.int .u8 1))]) w fun v_25 w => J_24 (σ.set 0 (some v_25)) w)) ∧
            (∀ (σ : List (Option Value)) (w : World), J_24 σ w → un σ 1 (efv prog (Instr.makeSlice 22 (.int .i64 50) (.int .i64 50)) w fun v_26 w => stay prog none m_23 t_22 w <| J_24 (σ.set 1 (some v_26)) w)) ∧
            ∀ (σ : List (Option Value)) (w : World), J_24 σ w → is σ 0 fun t_27 => is σ 1 fun t_28 => 
            Calls prog 6 #[t_1, t_27, t_28] w (Ret fun t_29 w => stay prog none m_23 t_22 w <| 
            pvv prog (oEq .neq 24 (.tmp 49) (.const (.int .i64 0)) t_29 (.int .i64 0)) w fun t_30 w =>
            gate (some (t_30, false)) (fun K => K t_1 w) w fun t_31 w =>
            gate (some (t_30, false)) (fun K => Calls prog 7 #[t_31] w (Ret fun s_36 w => stay prog none m_23 t_22 w <| K s_36 w)) w fun t_32 w =>
            gate (some (t_30, false)) (fun K => pvv prog (oEq .neq 24 (.tmp 53) (.const (.int .i64 0)) t_32 (.int .i64 0)) w K) w fun t_33 w =>
            pv prog (oPick t_30 (.bool true) t_33) w fun t_34 w =>
            cd t_34 (
              K (.bool false) w) <|
            pvv prog (binOp .add 3 i_14 (.int .i64 1)) w fun t_35 w =>
            again_15 [t_35] w)) <|
        Calls prog 8 #[t_1] w (Ret fun t_38 w =>
        pvv prog (Instr.extract t_38 0) w fun t_39 w =>
        pvv prog (Instr.extract t_38 1) w fun t_40 w =>
        efv prog (Instr.alloc 31 true (.tuple #[])) w fun x_41 w =>
        efu prog (Instr.storeAt 31 x_41 t_39) w fun u_42 w =>
        pvv prog (oEq .neq 24 (.tmp 61) (.const (.int .i64 0)) t_40 (.int .i64 0)) w fun t_43 w =>
        gate (some (t_43, false)) (fun K => K r_8 w) w fun t_44 w =>
        gate (some (t_43, false)) (fun K => pvv prog (binOp .gtr 3 t_44 (.int .i64 0)) w K) w fun t_45 w =>
        gate (some (t_43, false)) (fun K => K t_45 w) w fun t_46 w =>
        gate (some (t_46, true)) (fun K => pvv prog (Instr.fieldAt 31 x_41 1) w K) w fun t_47 w =>
        gate (some (t_46, true)) (fun K => ldv prog (Instr.loadAt 29 t_47) w K) w fun t_48 w =>
        gate (some (t_46, true)) (fun K => pv prog (oBi .len #[29] 3 #[false] #[t_48]) w K) w fun t_49 w =>
        gate (some (t_46, true)) (fun K => K most_7 w) w fun t_50 w =>
        gate (some (t_46, true)) (fun K => pvv prog (binOp .add 3 t_50 (.int .i64 2)) w K) w fun t_51 w =>
        gate (some (t_46, true)) (fun K => pvv prog (binOp .gtr 3 t_49 t_51) w K) w fun t_52 w =>
        gate (some (t_43, false)) (fun K => pv prog (oPick t_46 t_52 (.bool false)) w K) w fun t_53 w =>
        pv prog (oPick t_43 (.bool true) t_53) w fun t_54 w =>
        cd t_54 (
          K (.bool false) w) <|
        jn (fun σ w => pop σ fun most_55 σ => fin σ <|
          lp (fun σ w again_57 => pop σ fun i_56 σ => fin σ <|
            pv prog (oBi .len #[22] 3 #[false] #[l_p0]) w fun t_58 w =>
            pvv prog (binOp .lss 3 i_56 t_58) w fun t_59 w =>
            gate (some (t_59, true)) (fun K => K i_56 w) w fun t_60 w =>
            gate (some (t_59, true)) (fun K => pvv prog (binOp .lss 3 t_60 (.int .i64 40)) w K) w fun t_61 w =>
            pv prog (oPick t_59 t_61 (.bool false)) w fun t_62 w =>
            cd t_62 (
              pvv prog (Instr.indexAt 22 l_p0 i_56) w fun t_63 w =>
              ldv prog (Instr.loadAt 5 t_63) w fun t_64 w =>
              efv prog (Instr.buildSlice 22 2 #[(0, t_64), (1, (.int .u8 1))]) w fun t_65 w =>
              Calls prog 9 #[t_1, t_65] w (Ret fun t_66 w =>
              pvv prog (oEq .neq 24 (.tmp 99) (.const (.int .i64 0)) t_66 (.int .i64 0)) w fun t_67 w =>
              gate (some (t_67, true)) (fun K => K t_66 w) w fun t_68 w =>
              gate (some (t_67, true)) (fun K => pvv prog (oEq .neq 24 (.tmp 102) (.const (.int .i64 4)) t_68 (.int .i64 4)) w K) w fun t_69 w =>
              pv prog (oPick t_67 t_69 (.bool false)) w fun t_70 w =>
              gate (some (t_70, false)) (fun K => K t_1 w) w fun t_71 w =>
              gate (some (t_70, false)) (fun K => Calls prog 7 #[t_71] w (Ret K)) w fun t_72 w =>
              gate (some (t_70, false)) (fun K => pvv prog (oEq .neq 24 (.tmp 107) (.const (.int .i64 0)) t_72 (.int .i64 0)) w K) w fun t_73 w =>
              pv prog (oPick t_70 (.bool true) t_73) w fun t_74 w =>
              cd t_74 (
                K (.bool false) w) <|
              pvv prog (binOp .add 3 i_56 (.int .i64 1)) w fun t_75 w =>
              again_57 [t_75] w)) <|
            Calls prog 8 #[t_1] w (Ret fun t_76 w =>
            pvv prog (Instr.extract t_76 0) w fun t_77 w =>
            pvv prog (Instr.extract t_76 1) w fun t_78 w =>
            efu prog (Instr.storeAt 31 x_41 t_77) w fun u_79 w =>
            pvv prog (oEq .neq 24 (.tmp 115) (.const (.int .i64 0)) t_78 (.int .i64 0)) w fun t_80 w =>
            gate (some (t_80, false)) (fun K => pvv prog (Instr.fieldAt 31 x_41 1) w K) w fun t_81 w =>
            gate (some (t_80, false)) (fun K => ldv prog (Instr.loadAt 29 t_81) w K) w fun t_82 w =>
            gate (some (t_80, false)) (fun K => pv prog (oBi .len #[29] 3 #[false] #[t_82]) w K) w fun t_83 w =>
            gate (some (t_80, false)) (fun K => pvv prog (binOp .gtr 3 t_83 (.int .i64 1)) w K) w fun t_84 w =>
            pv prog (oPick t_80 (.bool true) t_84) w fun t_85 w =>
            cd t_85 (
              K (.bool false) w) <|
            pvv prog (binOp .add 3 r_8 (.int .i64 1)) w fun t_86 w =>
            again_9 [most_55, t_86] w)) [(.int .i64 0)] w) fun k_87 =>
        pvv prog (oEq .eql 3 (.tmp 75) (.const (.int .i64 0)) r_8 (.int .i64 0)) w fun t_88 w =>
        cd t_88 (
          pvv prog (Instr.fieldAt 31 x_41 1) w fun t_89 w =>
          ldv prog (Instr.loadAt 29 t_89) w fun t_90 w =>
          pv prog (oBi .len #[29] 3 #[false] #[t_90]) w fun t_91 w =>
          pvv prog (binOp .mul 3 (.int .i64 2) t_91) w fun t_92 w =>
          pvv prog (binOp .add 3 t_92 (.int .i64 8)) w fun t_93 w =>
          k_87 [t_93] w) <|
        k_87 [most_7] w)) [(.int .i64 0)] w) <|
    K (.bool true) w) [(.int .i64 0), (.int .i64 0)] w)
theorem B3_eq (l_p0 rounds_p1 : Value) (w : World) (K : Value → World → Prop) : denFn prog Tryz.f3 T3 [l_p0, rounds_p1] w K = B3 l_p0 rounds_p1 w K := by kernel_rfl
theorem c3 {l_p0 rounds_p1 : Value} {w : World} {K : Value → World → Prop} (h : B3 l_p0 rounds_p1 w K) : Calls prog 3 #[l_p0, rounds_p1] w (Ret K) :=
  denFn_calls Tryz.func3 T3_ok (Eq.mpr (B3_eq l_p0 rounds_p1 w K) h)

-- 15 holdfast/wal.Open
def T15 : Ann := (.seq .none (.seq (.block (.seq .none (.seq (.seq .none .none) (.seq .none (.seq (.seq .none .none) .none))))) (.seq .none (.seq .none (.seq .none (.seq (.seq .none (.seq (.seq .none .none) .none)) (.seq (.draw [.op 0 .pure, .op 1 .pure, .op 2 .pure, .op 3 .pure, .op 5 .pure, .op 6 .pure, .op 4 .eff, .op 7 .eff, .op 8 .pure, .op 9 .pure, .op 10 .eff, .op 11 .pure, .op 12 .pure, .op 13 .eff]) (.seq (.seq .none (.seq (.seq .none .none) .none)) (.seq (.seq .none (.block (.loop 20281790633632027733809801730096 [11] (.seq (.seq .none (.seq .none .none)) (.block (.seq .none (.seq (.seq .none (.seq (.seq .none .none) .none)) .none))))))) (.seq .none .none))))))))))
theorem T15_ok : chkFn prog Tryz.f15 T15 = true := by kernel_rfl
def B15 (d_p0 size_p1 : Value) (w : World) (K : Value → World → Prop) : Prop :=
  pvv prog (oEq .eql 49 (.tmp 14) (.const (.pointer none)) d_p0 (.pointer none)) w fun t_0 w =>
  cd t_0 (
    K (.tuple #[(.pointer none), (.int .i64 1)]) w) <|
  pvv prog (binOp .lss 3 size_p1 (.int .i64 2)) w fun t_1 w =>
  gate (some (t_1, false)) (fun K => K size_p1 w) w fun t_2 w =>
  gate (some (t_1, false)) (fun K => K d_p0 w) w fun t_3 w =>
  gate (some (t_1, false)) (fun K => Calls prog 38 #[t_3] w (Ret K)) w fun t_4 w =>
  gate (some (t_1, false)) (fun K => pvv prog (binOp .sub 3 t_4 (.int .i64 2)) w K) w fun t_5 w =>
  gate (some (t_1, false)) (fun K => pvv prog (binOp .gtr 3 t_2 t_5) w K) w fun t_6 w =>
  pv prog (oPick t_1 (.bool true) t_6) w fun t_7 w =>
  cd t_7 (
    K (.tuple #[(.pointer none), (.int .i64 2)]) w) <|
  Calls prog 40 #[d_p0] w (Ret fun t_8 w =>
  Calls prog 39 #[t_8] w (Ret fun t_9 w =>
  pvv prog (Instr.extract t_9 0) w fun t_10 w =>
  pvv prog (Instr.extract t_9 1) w fun t_11 w =>
  pvv prog (Instr.build 111 #[(0, t_10)]) w fun t_12 w =>
  efv prog (Instr.makeMap 112 none) w fun t_13 w =>
  pvv prog (Instr.build 114 #[(0, t_12), (1, size_p1), (4, t_13)]) w fun t_14 w =>
  efv prog (Instr.box 114 t_14) w fun t_15 w =>
  Calls prog 41 #[t_10, (.int .i64 0)] w (Ret fun t_16 w =>
  pvv prog (Instr.extract t_16 0) w fun t_17 w =>
  pvv prog (Instr.extract t_16 1) w fun t_18 w =>
  Calls prog 42 #[t_17] w (Ret fun t_19 w =>
  cd t_19 (
    K (.tuple #[t_15, (.int .i64 0)]) w) <|
  dr w fun w =>
  pvv prog (Instr.sliceAt 22 t_17 (some (.int .i64 2)) (some (.int .i64 10)) none) w fun t_20 w =>
  pvv prog (Instr.sliceAt 22 t_17 (some (.int .i64 10)) none none) w fun t_21 w =>
  Calls prog 43 #[t_20] w (Ret fun t_22 w =>
  Calls prog 44 #[t_21] w (Ret fun t_23 w =>
  pv prog (oNil t_15) w fun t_24 w =>
  pvv prog (Instr.fieldAt 114 t_24 2) w fun t_25 w =>
  efu prog (Instr.storeAt 3 t_25 t_22) w fun u_26 w =>
  pv prog (oNil t_15) w fun t_27 w =>
  pvv prog (Instr.fieldAt 114 t_27 3) w fun t_28 w =>
  efu prog (Instr.storeAt 3 t_28 t_23) w fun u_29 w =>
  pvv prog (Instr.indexAt 22 t_17 (.int .i64 0)) w fun t_30 w =>
  ldv prog (Instr.loadAt 5 t_30) w fun t_31 w =>
  pvv prog (oEq .neq 5 (.tmp 60) (.const (.int .u8 72)) t_31 (.int .u8 72)) w fun t_32 w =>
  gate (some (t_32, false)) (fun K => K t_17 w) w fun t_33 w =>
  gate (some (t_32, false)) (fun K => pvv prog (Instr.indexAt 22 t_33 (.int .i64 1)) w K) w fun t_34 w =>
  gate (some (t_32, false)) (fun K => ldv prog (Instr.loadAt 5 t_34) w K) w fun t_35 w =>
  gate (some (t_32, false)) (fun K => pvv prog (oEq .neq 5 (.tmp 65) (.const (.int .u8 70)) t_35 (.int .u8 70)) w K) w fun t_36 w =>
  pv prog (oPick t_32 (.bool true) t_36) w fun t_37 w =>
  gate (some (t_37, false)) (fun K => K t_15 w) w fun t_38 w =>
  gate (some (t_37, false)) (fun K => pv prog (oNil t_38) w K) w fun t_39 w =>
  gate (some (t_37, false)) (fun K => pvv prog (Instr.fieldAt 114 t_39 2) w K) w fun t_40 w =>
  gate (some (t_37, false)) (fun K => ldv prog (Instr.loadAt 3 t_40) w K) w fun t_41 w =>
  gate (some (t_37, false)) (fun K => pvv prog (binOp .lss 3 t_41 (.int .i64 0)) w K) w fun t_42 w =>
  pv prog (oPick t_37 (.bool true) t_42) w fun t_43 w =>
  gate (some (t_43, false)) (fun K => K t_17 w) w fun t_44 w =>
  gate (some (t_43, false)) (fun K => pvv prog (Instr.sliceAt 22 t_44 (some (.int .i64 12)) none none) w K) w fun t_45 w =>
  gate (some (t_43, false)) (fun K => Calls prog 42 #[t_45] w (Ret K)) w fun t_46 w =>
  gate (some (t_43, false)) (fun K => pvv prog (Op.unary .not t_46) w K) w fun t_47 w =>
  pv prog (oPick t_43 (.bool true) t_47) w fun t_48 w =>
  gate (some (t_48, false)) (fun K => K t_15 w) w fun t_49 w =>
  gate (some (t_48, false)) (fun K => pv prog (oNil t_49) w K) w fun t_50 w =>
  gate (some (t_48, false)) (fun K => pvv prog (Instr.fieldAt 114 t_50 3) w K) w fun t_51 w =>
  gate (some (t_48, false)) (fun K => ldv prog (Instr.loadAt 3 t_51) w K) w fun t_52 w =>
  gate (some (t_48, false)) (fun K => K size_p1 w) w fun t_53 w =>
  gate (some (t_48, false)) (fun K => pvv prog (binOp .gtr 3 t_52 t_53) w K) w fun t_54 w =>
  pv prog (oPick t_48 (.bool true) t_54) w fun t_55 w =>
  cd t_55 (
    K (.tuple #[(.pointer none), (.int .i64 15)]) w) <|
  lp (fun σ w again_57 => pop σ fun n_56 σ => fin σ <|
    pv prog (oNil t_15) w fun t_58 w =>
    pvv prog (Instr.fieldAt 114 t_58 3) w fun t_59 w =>
    ldv prog (Instr.loadAt 3 t_59) w fun t_60 w =>
    pvv prog (binOp .leq 3 n_56 t_60) w fun t_61 w =>
    cd t_61 (
      Calls prog 45 #[t_15, n_56] w (Ret fun t_62 w =>
      pvv prog (oEq .eql 3 (.tmp 98) (.const (.int .i64 0)) t_62 (.int .i64 0)) w fun t_63 w =>
      cd t_63 (
        K (.tuple #[(.pointer none), (.int .i64 15)]) w) <|
      pvv prog (binOp .add 3 t_62 (.int .i64 1)) w fun t_64 w =>
      pvv prog (binOp .add 3 n_56 t_64) w fun t_65 w =>
      again_57 [t_65] w)) <|
    K (.tuple #[t_15, (.int .i64 0)]) w) [(.int .i64 1)] w))))))
theorem B15_eq (d_p0 size_p1 : Value) (w : World) (K : Value → World → Prop) : denFn prog Tryz.f15 T15 [d_p0, size_p1] w K = B15 d_p0 size_p1 w K := by kernel_rfl
theorem c15 {d_p0 size_p1 : Value} {w : World} {K : Value → World → Prop} (h : B15 d_p0 size_p1 w K) : Calls prog 15 #[d_p0, size_p1] w (Ret K) :=
  denFn_calls Tryz.func15 T15_ok (Eq.mpr (B15_eq d_p0 size_p1 w K) h)

-- 49 (*holdfast/tree.change).take
def T49 : Ann := (.seq .none (.seq (.seq .none (.seq (.seq .none (.seq .none (.meet 1099444518928 [4] (.seq .none (.seq .none .none)) (.seq (.draw [.op 0 .pure, .op 1 .pure, .op 2 .pure, .op 6 .pure, .op 7 .pure, .op 3 .load, .op 4 .pure, .op 5 .pure, .op 8 .load, .op 9 .pure, .op 10 .pure, .op 11 .pure, .op 12 .pure, .op 13 .pure, .op 14 .eff]) (.seq .none .none))))) .none)) (.meet 4722330454072626249728 [] (.seq (.draw [.op 0 .pure, .op 1 .pure, .op 2 .pure, .op 3 .pure, .op 5 .pure, .op 6 .pure, .op 7 .pure, .op 4 .load, .op 8 .load, .op 9 .pure, .op 10 .pure, .op 11 .load, .op 12 .eff, .op 13 .eff, .op 14 .pure]) (.seq .none .none)) (.seq .none (.seq .none .none)))))
theorem T49_ok : chkFn prog Tryz.f49 T49 = true := by kernel_rfl
def B49 (c_p0 : Value) (w : World) (K : Value → World → Prop) : Prop :=
  pv prog (oNil c_p0) w fun t_0 w =>
  pvv prog (Instr.fieldAt 124 t_0 0) w fun t_1 w =>
  pvv prog (Instr.fieldAt 71 t_1 1) w fun t_2 w =>
  ldv prog (Instr.loadAt 3 t_2) w fun t_3 w =>
  pvv prog (oEq .neq 3 (.tmp 10) (.const (.int .i64 0)) t_3 (.int .i64 0)) w fun t_4 w =>
  cd t_4 (
    pv prog (oNil c_p0) w fun t_5 w =>
    pvv prog (Instr.fieldAt 124 t_5 0) w fun t_6 w =>
    pvv prog (Instr.fieldAt 71 t_6 1) w fun t_7 w =>
    ldv prog (Instr.loadAt 3 t_7) w fun t_8 w =>
    pv prog (oNil c_p0) w fun t_9 w =>
    pvv prog (Instr.fieldAt 124 t_9 2) w fun t_10 w =>
    ldv prog (Instr.loadAt 117 t_10) w fun t_11 w =>
    ldv prog (Instr.lookup 117 t_11 t_8 true) w fun t_12 w =>
    pvv prog (Instr.extract t_12 0) w fun t_13 w =>
    pvv prog (Instr.extract t_12 1) w fun t_14 w =>
    jn (fun σ w => pop σ fun b_15 σ => fin σ <|
      dr w fun w =>
      pvv prog (Instr.indexAt 22 b_15 (.int .i64 1)) w fun t_16 w =>
      pvv prog (Instr.indexAt 22 b_15 (.int .i64 2)) w fun t_17 w =>
      bindS (vN (Instr.loadAt 5 t_16)) fun m_19 => ldv prog (Instr.loadAt 5 t_16) w fun t_18 w =>
      pvv prog (convert 5 3 t_18) w fun t_20 w =>
      pvv prog (binOp .shl 3 t_20 (.int .u64 8)) w fun t_21 w =>
      bindS (vN (Instr.loadAt 5 t_17)) fun m_23 => ldv prog (Instr.loadAt 5 t_17) w fun t_22 w =>
      pvv prog (convert 5 3 t_22) w fun t_24 w =>
      pvv prog (binOp .or 3 t_21 t_24) w fun t_25 w =>
      pv prog (oNil c_p0) w fun t_26 w =>
      pvv prog (Instr.fieldAt 124 t_26 0) w fun t_27 w =>
      pvv prog (Instr.fieldAt 71 t_27 1) w fun t_28 w =>
      efu prog (Instr.storeAt 3 t_28 t_25) w fun u_29 w =>
      K t_8 w) fun k_31 =>
    pvv prog (Op.unary .not t_14) w fun t_32 w =>
    cd t_32 (
      pv prog (oNil c_p0) w fun t_33 w =>
      pvv prog (Instr.fieldAt 124 t_33 1) w fun t_34 w =>
      ldv prog (Instr.loadAt 23 t_34) w fun t_35 w =>
      pv prog (oNil t_35) w fun t_36 w =>
      pvv prog (Instr.fieldAt 73 t_36 1) w fun t_37 w =>
      ldv prog (Instr.loadAt 55 t_37) w fun t_38 w =>
      Calls prog 26 #[t_38, t_8] w (Ret fun t_39 w =>
      pvv prog (Instr.extract t_39 0) w fun t_40 w =>
      pvv prog (Instr.extract t_39 1) w fun t_41 w =>
      k_31 [t_40] w)) <|
    k_31 [t_13] w) <|
  jn (fun σ w => fin σ <|
    pv prog (oNil c_p0) w fun t_42 w =>
    pvv prog (Instr.fieldAt 124 t_42 0) w fun t_43 w =>
    pvv prog (Instr.fieldAt 71 t_43 2) w fun t_44 w =>
    ldv prog (Instr.loadAt 3 t_44) w fun t_45 w =>
    pvv prog (binOp .add 3 t_45 (.int .i64 1)) w fun t_46 w =>
    pv prog (oNil c_p0) w fun t_47 w =>
    pvv prog (Instr.fieldAt 124 t_47 0) w fun t_48 w =>
    pvv prog (Instr.fieldAt 71 t_48 2) w fun t_49 w =>
    efu prog (Instr.storeAt 3 t_49 t_46) w fun u_50 w =>
    pv prog (oNil c_p0) w fun t_51 w =>
    pvv prog (Instr.fieldAt 124 t_51 0) w fun t_52 w =>
    pvv prog (Instr.fieldAt 71 t_52 2) w fun t_53 w =>
    ldv prog (Instr.loadAt 3 t_53) w fun t_54 w =>
    pvv prog (binOp .sub 3 t_54 (.int .i64 1)) w fun t_55 w =>
    K t_55 w) fun k_56 =>
  dr w fun w =>
  pv prog (oNil c_p0) w fun t_57 w =>
  pvv prog (Instr.fieldAt 124 t_57 0) w fun t_58 w =>
  pvv prog (Instr.fieldAt 71 t_58 2) w fun t_59 w =>
  pv prog (oNil c_p0) w fun t_60 w =>
  pvv prog (Instr.fieldAt 124 t_60 1) w fun t_61 w =>
  bindS (vN (Instr.loadAt 3 t_59)) fun m_63 => ldv prog (Instr.loadAt 3 t_59) w fun t_62 w =>
  bindS (vN (Instr.loadAt 23 t_61)) fun m_65 => ldv prog (Instr.loadAt 23 t_61) w fun t_64 w =>
  pv prog (oNil t_64) w fun t_66 w =>
  pvv prog (Instr.fieldAt 73 t_66 1) w fun t_67 w =>
  bindS (vN (Instr.loadAt 55 t_67)) fun m_69 => ldv prog (Instr.loadAt 55 t_67) w fun t_68 w =>
  Calls prog 27 #[t_68] w (Ret fun t_70 w => stay prog none m_65 t_64 w <| stay prog none m_63 t_62 w <| 
  Calls prog 28 #[t_70] w (Ret fun t_71 w => stay prog none m_69 t_68 w <| stay prog none m_65 t_64 w <| stay prog none m_63 t_62 w <| 
  pvv prog (binOp .geq 3 t_62 t_71) w fun t_72 w =>
  cd t_72 (
    pvv prog (Instr.build 75 #[(0, (.int .i64 7))]) w fun t_73 w =>
    pvv prog (Instr.makeInterface 75 t_73) w fun t_74 w =>
    efv prog (Instr.panic t_74) w fun u_75 w =>
    k_56 [] w) <|
  k_56 [] w))
theorem B49_eq (c_p0 : Value) (w : World) (K : Value → World → Prop) : denFn prog Tryz.f49 T49 [c_p0] w K = B49 c_p0 w K := by kernel_rfl
theorem c49 {c_p0 : Value} {w : World} {K : Value → World → Prop} (h : B49 c_p0 w K) : Calls prog 49 #[c_p0] w (Ret K) :=
  denFn_calls Tryz.func49 T49_ok (Eq.mpr (B49_eq c_p0 w K) h)

-- 60 (*holdfast/wal.Log).Checkpoint
def T60 : Ann := (.seq .none (.seq (.block (.seq .none (.seq (.seq .none .none) (.seq .none (.seq (.seq .none .none) .none))))) (.seq (.seq .none (.block (.loop 9007199254216816 [19] (.seq .none (.seq (.seq .none .none) (.seq (.block (.seq .none (.seq (.draw [.op 0 .pure, .op 1 .pure, .op 2 .pure, .op 3 .pure, .op 5 .pure, .op 6 .pure, .op 7 .pure, .op 9 .pure, .op 4 .load, .op 8 .load, .op 10 .load, .op 11 .eff, .op 12 .pure, .op 13 .pure, .op 14 .pure, .op 15 .pure, .op 16 .pure]) (.draw [.op 0 .pure, .op 1 .pure, .op 2 .pure, .op 3 .pure, .op 5 .pure, .op 6 .pure, .op 7 .pure, .op 10 .pure, .op 12 .pure, .op 4 .load, .op 8 .load, .op 9 .pure, .op 11 .pure, .op 13 .eff])))) .none)))))) (.seq .none (.seq .none (.seq .none (.seq .none .none)))))))
theorem T60_ok : chkFn prog Tryz.f60 T60 = true := by kernel_rfl
def B60 (l_p0 : Value) (w : World) (K : Value → World → Prop) : Prop :=
  pvv prog (oEq .eql 52 (.tmp 8) (.const (.pointer none)) l_p0 (.pointer none)) w fun t_0 w =>
  cd t_0 (
    K (.int .i64 1) w) <|
  pv prog (oNil l_p0) w fun t_1 w =>
  pvv prog (Instr.fieldAt 114 t_1 3) w fun t_2 w =>
  ldv prog (Instr.loadAt 3 t_2) w fun t_3 w =>
  pvv prog (oEq .eql 3 (.tmp 14) (.const (.int .i64 0)) t_3 (.int .i64 0)) w fun t_4 w =>
  cd t_4 (
    K (.int .i64 0) w) <|
  Calls prog 96 #[l_p0] w (Ret fun t_5 w =>
  pv prog (oBi .len #[29] 3 #[false] #[t_5]) w fun t_6 w =>
  lp (fun σ w again_8 => pop σ fun t_7 σ => fin σ <|
    pvv prog (binOp .lss 3 t_7 t_6) w fun t_9 w =>
    cd t_9 (
      pvv prog (Instr.indexAt 29 t_5 t_7) w fun t_10 w =>
      ldv prog (Instr.loadAt 3 t_10) w fun t_11 w =>
      dr w fun w =>
      pv prog (oNil l_p0) w fun t_12 w =>
      pvv prog (Instr.fieldAt 114 t_12 0) w fun t_13 w =>
      pvv prog (Instr.fieldAt 111 t_13 0) w fun t_14 w =>
      pv prog (oNil l_p0) w fun t_15 w =>
      pvv prog (Instr.fieldAt 114 t_15 4) w fun t_16 w =>
      bindS (vN (Instr.loadAt 49 t_14)) fun m_18 => ldv prog (Instr.loadAt 49 t_14) w fun t_17 w =>
      bindS (vN (Instr.loadAt 112 t_16)) fun m_20 => ldv prog (Instr.loadAt 112 t_16) w fun t_19 w =>
      bindS (vN (Instr.lookup 112 t_19 t_11 false)) fun m_22 => ldv prog (Instr.lookup 112 t_19 t_11 false) w fun t_21 w =>
      Calls prog 41 #[t_17, t_21] w (Ret fun t_23 w => stay prog none m_20 t_19 w <| 
      pvv prog (Instr.extract t_23 0) w fun t_24 w =>
      pvv prog (Instr.extract t_23 1) w fun t_25 w =>
      dr w fun w =>
      pv prog (oNil l_p0) w fun t_26 w =>
      pvv prog (Instr.fieldAt 114 t_26 0) w fun t_27 w =>
      pvv prog (Instr.fieldAt 111 t_27 0) w fun t_28 w =>
      pv prog (oNil l_p0) w fun t_29 w =>
      pvv prog (Instr.fieldAt 114 t_29 1) w fun t_30 w =>
      bindS (vN (Instr.loadAt 49 t_28)) fun m_32 => ldv prog (Instr.loadAt 49 t_28) w fun t_31 w =>
      bindS (vN (Instr.loadAt 3 t_30)) fun m_34 => ldv prog (Instr.loadAt 3 t_30) w fun t_33 w =>
      pvv prog (binOp .add 3 t_33 (.int .i64 1)) w fun t_35 w =>
      pvv prog (binOp .add 3 t_35 t_11) w fun t_36 w =>
      Calls prog 94 #[t_31, t_36, t_24] w (Ret fun t_37 w => stay prog none m_34 t_33 w <| 
      pvv prog (binOp .add 3 t_7 (.int .i64 1)) w fun t_38 w =>
      again_8 [t_38] w))) <|
    pv prog (oNil l_p0) w fun t_41 w =>
    pvv prog (Instr.fieldAt 114 t_41 3) w fun t_42 w =>
    efu prog (Instr.storeAt 3 t_42 (.int .i64 0)) w fun u_43 w =>
    pv prog (oNil l_p0) w fun t_44 w =>
    pvv prog (Instr.fieldAt 114 t_44 4) w fun t_45 w =>
    ldv prog (Instr.loadAt 112 t_45) w fun t_46 w =>
    ef prog (oBi .clear #[112] 0 #[false] #[t_46]) w fun u_47 w =>
    Calls prog 95 #[l_p0] w (Ret fun t_48 w =>
    K (.int .i64 0) w)) [(.int .i64 0)] w)
theorem B60_eq (l_p0 : Value) (w : World) (K : Value → World → Prop) : denFn prog Tryz.f60 T60 [l_p0] w K = B60 l_p0 w K := by kernel_rfl
theorem c60 {l_p0 : Value} {w : World} {K : Value → World → Prop} (h : B60 l_p0 w K) : Calls prog 60 #[l_p0] w (Ret K) :=
  denFn_calls Tryz.func60 T60_ok (Eq.mpr (B60_eq l_p0 w K) h)

-- 13 (*holdfast/tree.Tree).Scan
def T23 : Ann := (.seq .none (.seq (.seq .none (.seq (.seq .none .none) .none)) (.seq .none (.seq (.seq .none (.block (.loop 33538104 [3] (.seq .none (.seq (.seq .none .none) (.block (.seq .none .none))))))) (.seq .none (.meet 17590038560832 [6] (.seq .none (.seq (.seq .none .none) .none)) (.meet 1108307720798208 [] (.seq .none (.seq .none .none)) (.seq .none .none))))))))
theorem T23_ok : chkFn prog Tryz.f23 T23 = true := by kernel_rfl
def B23 (p_p0 : Value) (w : World) (K : Value → World → Prop) : Prop :=
  pvv prog (oEq .eql 55 (.tmp 7) (.const (.pointer none)) p_p0 (.pointer none)) w fun t_0 w =>
  cd t_0 (
    K (.int .i64 1) w) <|
  pv prog (oNil p_p0) w fun t_1 w =>
  pvv prog (Instr.fieldAt 119 t_1 2) w fun t_2 w =>
  ldv prog (Instr.loadAt 117 t_2) w fun t_3 w =>
  efv prog (Instr.range 117 t_3) w fun t_4 w =>
  lp (fun σ w again_6 => pop σ fun l_5 σ => fin σ <|
    efv prog (Instr.next t_4 false 0) w fun t_7 w =>
    pvv prog (Instr.extract t_7 0) w fun t_8 w =>
    cd t_8 (
      efv prog (Instr.entry t_4) w fun t_9 w =>
      pvv prog (Instr.extract t_9 0) w fun t_10 w =>
      pvv prog (Instr.extract t_9 1) w fun t_11 w =>
      pvv prog (Instr.build 136 #[(0, t_10), (1, t_11)]) w fun t_12 w =>
      efv prog (Instr.buildSlice 134 1 #[(0, t_12)]) w fun t_13 w =>
      ef prog (oBi .append #[134, 134] 134 #[false, false] #[l_5, t_13]) w fun t_14 w =>
      again_6 [t_14] w) <|
    pv prog (oNil p_p0) w fun t_15 w =>
    pvv prog (Instr.fieldAt 119 t_15 0) w fun t_16 w =>
    ldv prog (Instr.loadAt 52 t_16) w fun t_17 w =>
    Calls prog 59 #[t_17, l_5] w (Ret fun t_18 w =>
    jn (fun σ w => pop σ fun e_19 σ => fin σ <|
      jn (fun σ w => fin σ <|
        K e_19 w) fun k_20 =>
      pvv prog (oEq .eql 24 (.tmp 44) (.const (.int .i64 0)) e_19 (.int .i64 0)) w fun t_21 w =>
      cd t_21 (
        pv prog (oNil p_p0) w fun t_22 w =>
        pvv prog (Instr.fieldAt 119 t_22 2) w fun t_23 w =>
        ldv prog (Instr.loadAt 117 t_23) w fun t_24 w =>
        ef prog (oBi .clear #[117] 0 #[false] #[t_24]) w fun u_25 w =>
        k_20 [] w) <|
      k_20 [] w) fun k_26 =>
    pvv prog (oEq .eql 24 (.tmp 31) (.const (.int .i64 7)) t_18 (.int .i64 7)) w fun t_27 w =>
    cd t_27 (
      pv prog (oNil p_p0) w fun t_28 w =>
      pvv prog (Instr.fieldAt 119 t_28 0) w fun t_29 w =>
      ldv prog (Instr.loadAt 52 t_29) w fun t_30 w =>
      Calls prog 60 #[t_30] w (Ret fun t_31 w =>
      pv prog (oNil p_p0) w fun t_32 w =>
      pvv prog (Instr.fieldAt 119 t_32 0) w fun t_33 w =>
      ldv prog (Instr.loadAt 52 t_33) w fun t_34 w =>
      Calls prog 59 #[t_34, l_5] w (Ret fun t_35 w =>
      k_26 [t_35] w))) <|
    k_26 [t_18] w)) [(.slice none 0 0)] w
theorem B23_eq (p_p0 : Value) (w : World) (K : Value → World → Prop) : denFn prog Tryz.f23 T23 [p_p0] w K = B23 p_p0 w K := by kernel_rfl
theorem c23 {p_p0 : Value} {w : World} {K : Value → World → Prop} (h : B23 p_p0 w K) : Calls prog 23 #[p_p0] w (Ret K) :=
  denFn_calls Tryz.func23 T23_ok (Eq.mpr (B23_eq p_p0 w K) h)

-- 30 (*holdfast/tree.Tree).leaf
def T30 : Ann := (.seq .none (.seq .none (.seq (.seq .none (.block (.loop 549755683168 [8] (.seq (.seq .none (.seq .none .none)) (.seq (.block (.seq .none (.seq .none (.seq .none (.seq (.seq .none .none) .none))))) .none))))) (.seq .none .none))))
theorem T30_ok : chkFn prog Tryz.f30 T30 = true := by kernel_rfl
def B30 (t_p0 key_p1 : Value) (w : World) (K : Value → World → Prop) : Prop :=
  efv prog (Instr.alloc 63 true (.tuple #[])) w fun n_0 w =>
  pvv prog (Instr.build 124 #[(1, t_p0)]) w fun t_1 w =>
  efv prog (Instr.box 124 t_1) w fun t_2 w =>
  pv prog (oNil t_p0) w fun t_3 w =>
  pvv prog (Instr.fieldAt 73 t_3 0) w fun t_4 w =>
  pvv prog (Instr.fieldAt 71 t_4 0) w fun t_5 w =>
  ldv prog (Instr.loadAt 3 t_5) w fun t_6 w =>
  lp (fun σ w again_8 => pop σ fun page_7 σ => fin σ <|
    pvv prog (oEq .neq 3 (.tmp 17) (.const (.int .i64 0)) page_7 (.int .i64 0)) w fun t_9 w =>
    cd t_9 (
      Calls prog 52 #[t_2, page_7] w (Ret fun t_10 w =>
      efu prog (Instr.storeAt 63 n_0 t_10) w fun u_11 w =>
      ldv prog (Instr.loadAt 63 n_0) w fun t_12 w =>
      Calls prog 21 #[t_12, key_p1] w (Ret fun t_13 w =>
      pvv prog (Instr.extract t_13 0) w fun t_14 w =>
      pvv prog (Instr.extract t_13 1) w fun t_15 w =>
      pvv prog (Instr.fieldAt 63 n_0 0) w fun t_16 w =>
      ldv prog (Instr.loadAt 4 t_16) w fun t_17 w =>
      cd t_17 (
        ldv prog (Instr.loadAt 63 n_0) w fun t_18 w =>
        efu prog (Instr.storeAt 63 n_0 t_18) w fun u_19 w =>
        ∃ r_20, (do loadVar 63 (← asAddr n_0)).run prog w = .ok r_20 w ∧ K (.tuple #[r_20, t_14, t_15]) w) <|
      pvv prog (Instr.fieldAt 63 n_0 1) w fun t_21 w =>
      ldv prog (Instr.loadAt 61 t_21) w fun t_22 w =>
      pvv prog (Instr.indexAt 61 t_22 t_14) w fun t_23 w =>
      pvv prog (Instr.fieldAt 67 t_23 2) w fun t_24 w =>
      ldv prog (Instr.loadAt 3 t_24) w fun t_25 w =>
      again_8 [t_25] w))) <|
    ldv prog (Instr.loadAt 63 n_0) w fun t_26 w =>
    efu prog (Instr.storeAt 63 n_0 t_26) w fun u_27 w =>
    ∃ r_28, (do loadVar 63 (← asAddr n_0)).run prog w = .ok r_28 w ∧ K (.tuple #[r_28, (.int .i64 0), (.bool false)]) w) [t_6] w
theorem B30_eq (t_p0 key_p1 : Value) (w : World) (K : Value → World → Prop) : denFn prog Tryz.f30 T30 [t_p0, key_p1] w K = B30 t_p0 key_p1 w K := by kernel_rfl
theorem c30 {t_p0 key_p1 : Value} {w : World} {K : Value → World → Prop} (h : B30 t_p0 key_p1 w K) : Calls prog 30 #[t_p0, key_p1] w (Ret K) :=
  denFn_calls Tryz.func30 T30_ok (Eq.mpr (B30_eq t_p0 key_p1 w K) h)

-- 55 slices.BinarySearchFunc[[]holdfast/tree.entry,holdfast/tree.entry,[]byte]
def T55 : Ann := (.seq .none (.seq .none (.seq .none (.seq (.block (.loop 34359709184 [9, 10] (.seq (.seq .none (.seq .none .none)) (.block (.seq .none (.seq .none (.seq .none .none))))))) (.seq .none .none)))))
theorem T55_ok : chkFn prog Tryz.f55 T55 = true := by kernel_rfl
def B55 (x_p0 target_p1 cmp_p2 : Value) (w : World) (K : Value → World → Prop) : Prop :=
  pv prog (oBi .len #[61] 3 #[false] #[x_p0]) w fun t_0 w =>
  lp (fun σ w again_3 => pop σ fun i_1 σ => pop σ fun j_2 σ => fin σ <|
    pvv prog (binOp .lss 3 i_1 j_2) w fun t_4 w =>
    cd t_4 (
      pvv prog (binOp .add 3 i_1 j_2) w fun t_5 w =>
      pvv prog (convert 3 81 t_5) w fun t_6 w =>
      pvv prog (binOp .shr 81 t_6 (.int .u64 1)) w fun t_7 w =>
      pvv prog (convert 81 3 t_7) w fun t_8 w =>
      pvv prog (Instr.indexAt 61 x_p0 t_8) w fun t_9 w =>
      ldv prog (Instr.loadAt 67 t_9) w fun t_10 w =>
      ef prog (oCall cmp_p2 #[t_10, target_p1]) w fun t_11 w =>
      pvv prog (binOp .lss 3 t_11 (.int .i64 0)) w fun t_12 w =>
      cd t_12 (
        pvv prog (binOp .add 3 t_8 (.int .i64 1)) w fun t_13 w =>
        again_3 [t_13, j_2] w) <|
      again_3 [i_1, t_8] w) <|
    pvv prog (binOp .lss 3 i_1 t_0) w fun t_14 w =>
    gate (some (t_14, true)) (fun K => K cmp_p2 w) w fun t_15 w =>
    gate (some (t_14, true)) (fun K => K x_p0 w) w fun t_16 w =>
    gate (some (t_14, true)) (fun K => K i_1 w) w fun t_17 w =>
    gate (some (t_14, true)) (fun K => pvv prog (Instr.indexAt 61 t_16 t_17) w K) w fun t_18 w =>
    gate (some (t_14, true)) (fun K => ldv prog (Instr.loadAt 67 t_18) w K) w fun t_19 w =>
    gate (some (t_14, true)) (fun K => K target_p1 w) w fun t_20 w =>
    gate (some (t_14, true)) (fun K => ef prog (oCall t_15 #[t_19, t_20]) w K) w fun t_21 w =>
    gate (some (t_14, true)) (fun K => pvv prog (oEq .eql 3 (.tmp 46) (.const (.int .i64 0)) t_21 (.int .i64 0)) w K) w fun t_22 w =>
    pv prog (oPick t_14 t_22 (.bool false)) w fun t_23 w =>
    K (.tuple #[i_1, t_23]) w) [(.int .i64 0), t_0] w
theorem B55_eq (x_p0 target_p1 cmp_p2 : Value) (w : World) (K : Value → World → Prop) : denFn prog Tryz.f55 T55 [x_p0, target_p1, cmp_p2] w K = B55 x_p0 target_p1 cmp_p2 w K := by kernel_rfl
theorem c55 {x_p0 target_p1 cmp_p2 : Value} {w : World} {K : Value → World → Prop} (h : B55 x_p0 target_p1 cmp_p2 w K) : Calls prog 55 #[x_p0, target_p1, cmp_p2] w (Ret K) :=
  denFn_calls Tryz.func55 T55_ok (Eq.mpr (B55_eq x_p0 target_p1 cmp_p2 w K) h)

-- 53 (*holdfast/tree.change).give
def T53 : Ann := (.seq .none (.seq (.draw [.op 0 .pure, .op 1 .pure, .op 2 .pure, .op 3 .pure, .op 4 .pure, .op 5 .pure, .op 6 .pure, .op 10 .pure, .op 11 .pure, .op 12 .pure, .op 13 .pure, .op 7 .load, .op 8 .pure, .op 9 .pure, .op 14 .load, .op 15 .pure, .op 16 .pure, .op 17 .eff, .op 18 .pure, .op 19 .eff, .op 20 .pure, .op 21 .eff]) (.seq .none .none)))
theorem T53_ok : chkFn prog Tryz.f53 T53 = true := by kernel_rfl
def B53 (c_p0 page_p1 : Value) (w : World) (K : Value → World → Prop) : Prop :=
  efv prog (Instr.makeSlice 22 (.int .i64 256) (.int .i64 256)) w fun t_0 w =>
  dr w fun w =>
  pv prog (oNil c_p0) w fun t_1 w =>
  pvv prog (Instr.fieldAt 124 t_1 0) w fun t_2 w =>
  pvv prog (Instr.fieldAt 71 t_2 1) w fun t_3 w =>
  pv prog (oNil c_p0) w fun t_4 w =>
  pvv prog (Instr.fieldAt 124 t_4 0) w fun t_5 w =>
  pvv prog (Instr.fieldAt 71 t_5 1) w fun t_6 w =>
  bindS (vN (Instr.loadAt 3 t_3)) fun m_8 => ldv prog (Instr.loadAt 3 t_3) w fun t_7 w =>
  pvv prog (binOp .shr 3 t_7 (.int .u64 8)) w fun t_9 w =>
  pvv prog (convert 3 5 t_9) w fun t_10 w =>
  bindS (vN (Instr.loadAt 3 t_6)) fun m_12 => ldv prog (Instr.loadAt 3 t_6) w fun t_11 w =>
  pvv prog (convert 3 5 t_11) w fun t_13 w =>
  pvv prog (Instr.indexAt 22 t_0 (.int .i64 0)) w fun t_14 w =>
  efu prog (Instr.storeAt 5 t_14 (.int .u8 70)) w fun u_15 w =>
  pvv prog (Instr.indexAt 22 t_0 (.int .i64 1)) w fun t_16 w =>
  efu prog (Instr.storeAt 5 t_16 t_10) w fun u_17 w =>
  pvv prog (Instr.indexAt 22 t_0 (.int .i64 2)) w fun t_18 w =>
  efu prog (Instr.storeAt 5 t_18 t_13) w fun u_19 w =>
  pv prog (oNil c_p0) w fun t_20 w =>
  pvv prog (Instr.fieldAt 124 t_20 2) w fun t_21 w =>
  ldv prog (Instr.loadAt 117 t_21) w fun t_22 w =>
  efu prog (Instr.mapUpdate 117 t_22 page_p1 t_0) w fun u_23 w =>
  pv prog (oNil c_p0) w fun t_24 w =>
  pvv prog (Instr.fieldAt 124 t_24 0) w fun t_25 w =>
  pvv prog (Instr.fieldAt 71 t_25 1) w fun t_26 w =>
  efu prog (Instr.storeAt 3 t_26 page_p1) w fun u_27 w =>
  K (.tuple #[]) w
theorem B53_eq (c_p0 page_p1 : Value) (w : World) (K : Value → World → Prop) : denFn prog Tryz.f53 T53 [c_p0, page_p1] w K = B53 c_p0 page_p1 w K := by kernel_rfl
theorem c53 {c_p0 page_p1 : Value} {w : World} {K : Value → World → Prop} (h : B53 c_p0 page_p1 w K) : Calls prog 53 #[c_p0, page_p1] w (Ret K) :=
  denFn_calls Tryz.func53 T53_ok (Eq.mpr (B53_eq c_p0 page_p1 w K) h)

-- 95 (*holdfast/wal.Log).head
def T95 : Ann := (.seq .none (.seq .none (.seq (.draw [.op 0 .pure, .op 1 .pure, .op 2 .pure, .op 3 .pure, .op 4 .pure, .op 5 .load, .op 6 .eff]) (.seq (.draw [.op 0 .pure, .op 1 .pure, .op 2 .pure, .op 3 .pure, .op 4 .pure, .op 5 .load, .op 6 .eff]) .none))))
theorem T95_ok : chkFn prog Tryz.f95 T95 = true := by kernel_rfl
def B95 (l_p0 : Value) (w : World) (K : Value → World → Prop) : Prop :=
  efv prog (Instr.makeSlice 22 (.int .i64 256) (.int .i64 256)) w fun t_0 w =>
  pvv prog (Instr.indexAt 22 t_0 (.int .i64 0)) w fun t_1 w =>
  efu prog (Instr.storeAt 5 t_1 (.int .u8 72)) w fun u_2 w =>
  pvv prog (Instr.indexAt 22 t_0 (.int .i64 1)) w fun t_3 w =>
  efu prog (Instr.storeAt 5 t_3 (.int .u8 70)) w fun u_4 w =>
  dr w fun w =>
  pvv prog (Instr.sliceAt 22 t_0 (some (.int .i64 2)) (some (.int .i64 10)) none) w fun t_5 w =>
  pv prog (oNil l_p0) w fun t_6 w =>
  pvv prog (Instr.fieldAt 114 t_6 2) w fun t_7 w =>
  bindS (vN (Instr.loadAt 3 t_7)) fun m_9 => ldv prog (Instr.loadAt 3 t_7) w fun t_8 w =>
  Calls prog 93 #[t_5, t_8] w (Ret fun t_10 w =>
  dr w fun w =>
  pvv prog (Instr.sliceAt 22 t_0 (some (.int .i64 10)) (some (.int .i64 12)) none) w fun t_11 w =>
  pv prog (oNil l_p0) w fun t_12 w =>
  pvv prog (Instr.fieldAt 114 t_12 3) w fun t_13 w =>
  bindS (vN (Instr.loadAt 3 t_13)) fun m_15 => ldv prog (Instr.loadAt 3 t_13) w fun t_14 w =>
  Calls prog 93 #[t_11, t_14] w (Ret fun t_16 w =>
  pv prog (oNil l_p0) w fun t_17 w =>
  pvv prog (Instr.fieldAt 114 t_17 0) w fun t_18 w =>
  pvv prog (Instr.fieldAt 111 t_18 0) w fun t_19 w =>
  ldv prog (Instr.loadAt 49 t_19) w fun t_20 w =>
  Calls prog 94 #[t_20, (.int .i64 0), t_0] w (Ret fun t_21 w =>
  K (.tuple #[]) w)))
theorem B95_eq (l_p0 : Value) (w : World) (K : Value → World → Prop) : denFn prog Tryz.f95 T95 [l_p0] w K = B95 l_p0 w K := by kernel_rfl
theorem c95 {l_p0 : Value} {w : World} {K : Value → World → Prop} (h : B95 l_p0 w K) : Calls prog 95 #[l_p0] w (Ret K) :=
  denFn_calls Tryz.func95 T95_ok (Eq.mpr (B95_eq l_p0 w K) h)

-- 137 slices.Grow[[]holdfast/tree.entry,holdfast/tree.entry]
def T137 : Ann := (.seq .none (.meet 224 [] (.seq .none (.seq .none .none)) (.meet 67108611 [0] (.seq .none (.seq .none (.seq .none .none))) (.seq .none .none))))
theorem T137_ok : chkFn prog Tryz.f137 T137 = true := by kernel_rfl
def B137 (s_p0 n_p1 : Value) (w : World) (K : Value → World → Prop) : Prop :=
  jn (fun σ w => fin σ <|
    jn (fun σ w => pop σ fun s_0 σ => fin σ <|
      K s_0 w) fun k_1 =>
    pv prog (oBi .cap #[61] 3 #[false] #[s_p0]) w fun t_2 w =>
    pv prog (oBi .len #[61] 3 #[false] #[s_p0]) w fun t_3 w =>
    pvv prog (binOp .sub 3 t_2 t_3) w fun t_4 w =>
    pvv prog (binOp .sub 3 n_p1 t_4) w fun t_5 w =>
    pvv prog (binOp .gtr 3 t_5 (.int .i64 0)) w fun t_6 w =>
    cd t_6 (
      pv prog (oBi .cap #[61] 3 #[false] #[s_p0]) w fun t_7 w =>
      pvv prog (Instr.sliceAt 61 s_p0 none (some t_7) none) w fun t_8 w =>
      ef prog (oBi .append #[61, 3] 61 #[false, false] #[t_8, t_5]) w fun t_9 w =>
      pv prog (oBi .len #[61] 3 #[false] #[s_p0]) w fun t_10 w =>
      pvv prog (Instr.sliceAt 61 t_9 none (some t_10) none) w fun t_11 w =>
      k_1 [t_11] w) <|
    k_1 [s_p0] w) fun k_12 =>
  pvv prog (binOp .lss 3 n_p1 (.int .i64 0)) w fun t_13 w =>
  cd t_13 (
    pvv prog (Instr.makeInterface 9 (.string ⟨#[99, 97, 110, 110, 111, 116, 32, 98, 101, 32, 110, 101, 103, 97, 116, 105, 118, 101]⟩)) w fun t_14 w =>
    efv prog (Instr.panic t_14) w fun u_15 w =>
    k_12 [] w) <|
  k_12 [] w
theorem B137_eq (s_p0 n_p1 : Value) (w : World) (K : Value → World → Prop) : denFn prog Tryz.f137 T137 [s_p0, n_p1] w K = B137 s_p0 n_p1 w K := by kernel_rfl
theorem c137 {s_p0 n_p1 : Value} {w : World} {K : Value → World → Prop} (h : B137 s_p0 n_p1 w K) : Calls prog 137 #[s_p0, n_p1] w (Ret K) :=
  denFn_calls Tryz.func137 T137_ok (Eq.mpr (B137_eq s_p0 n_p1 w K) h)

-- 12 holdfast/hash.Same
def T62 : Ann := (.seq .none (.seq .none (.seq (.seq .none (.block (.loop 523816 [3, 9] (.seq .none (.seq (.seq .none .none) (.seq (.block (.seq .none .none)) .none)))))) (.seq .none .none))))
theorem T62_ok : chkFn prog Tryz.f62 T62 = true := by kernel_rfl
def B62 (n_p0 : Value) (w : World) (K : Value → World → Prop) : Prop :=
  efv prog (Instr.box 63 n_p0) w fun n_0 w =>
  pvv prog (Instr.fieldAt 63 n_0 1) w fun t_1 w =>
  ldv prog (Instr.loadAt 61 t_1) w fun t_2 w =>
  pv prog (oBi .len #[61] 3 #[false] #[t_2]) w fun t_3 w =>
  lp (fun σ w again_6 => pop σ fun s_4 σ => pop σ fun t_5 σ => fin σ <|
    pvv prog (binOp .lss 3 t_5 t_3) w fun t_7 w =>
    cd t_7 (
      pvv prog (Instr.indexAt 61 t_2 t_5) w fun t_8 w =>
      ldv prog (Instr.loadAt 67 t_8) w fun t_9 w =>
      efv prog (Instr.alloc 67 true (.tuple #[])) w fun e_10 w =>
      efu prog (Instr.storeAt 67 e_10 t_9) w fun u_11 w =>
      ldv prog (Instr.loadAt 63 n_0) w fun t_12 w =>
      ldv prog (Instr.loadAt 67 e_10) w fun t_13 w =>
      Calls prog 97 #[t_12, t_13] w (Ret fun t_14 w =>
      pvv prog (binOp .add 3 s_4 t_14) w fun t_15 w =>
      pvv prog (binOp .add 3 t_5 (.int .i64 1)) w fun t_16 w =>
      again_6 [t_15, t_16] w)) <|
    K s_4 w) [(.int .i64 0), (.int .i64 0)] w
theorem B62_eq (n_p0 : Value) (w : World) (K : Value → World → Prop) : denFn prog Tryz.f62 T62 [n_p0] w K = B62 n_p0 w K := by kernel_rfl
theorem c62 {n_p0 : Value} {w : World} {K : Value → World → Prop} (h : B62 n_p0 w K) : Calls prog 62 #[n_p0] w (Ret K) :=
  denFn_calls Tryz.func62 T62_ok (Eq.mpr (B62_eq n_p0 w K) h)

-- 21 (holdfast/tree.node).find
def T21 : Ann := (.seq .none (.seq .none (.meet 33521728 [6] (.seq .none (.seq .none .none)) (.seq .none .none))))
theorem T21_ok : chkFn prog Tryz.f21 T21 = true := by kernel_rfl
def B21 (n_p0 key_p1 : Value) (w : World) (K : Value → World → Prop) : Prop :=
  efv prog (Instr.box 63 n_p0) w fun n_0 w =>
  pvv prog (Instr.fieldAt 63 n_0 1) w fun t_1 w =>
  ldv prog (Instr.loadAt 61 t_1) w fun t_2 w =>
  Calls prog 55 #[t_2, key_p1, (.func (.func 56) #[] #[])] w (Ret fun t_3 w =>
  pvv prog (Instr.extract t_3 0) w fun t_4 w =>
  pvv prog (Instr.extract t_3 1) w fun t_5 w =>
  jn (fun σ w => pop σ fun i_6 σ => fin σ <|
    K (.tuple #[i_6, t_5]) w) fun k_7 =>
  pvv prog (Instr.fieldAt 63 n_0 0) w fun t_8 w =>
  ldv prog (Instr.loadAt 4 t_8) w fun t_9 w =>
  pvv prog (Op.unary .not t_9) w fun t_10 w =>
  gate (some (t_10, true)) (fun K => K t_5 w) w fun t_11 w =>
  gate (some (t_10, true)) (fun K => pvv prog (Op.unary .not t_11) w K) w fun t_12 w =>
  pv prog (oPick t_10 t_12 (.bool false)) w fun t_13 w =>
  cd t_13 (
    pvv prog (binOp .sub 3 t_4 (.int .i64 1)) w fun t_14 w =>
    pv prog (oBi .max #[3, 3] 3 #[false, true] #[t_14, (.int .i64 0)]) w fun t_15 w =>
    k_7 [t_15] w) <|
  k_7 [t_4] w)
theorem B21_eq (n_p0 key_p1 : Value) (w : World) (K : Value → World → Prop) : denFn prog Tryz.f21 T21 [n_p0, key_p1] w K = B21 n_p0 key_p1 w K := by kernel_rfl
theorem c21 {n_p0 key_p1 : Value} {w : World} {K : Value → World → Prop} (h : B21 n_p0 key_p1 w K) : Calls prog 21 #[n_p0, key_p1] w (Ret K) :=
  denFn_calls Tryz.func21 T21_ok (Eq.mpr (B21_eq n_p0 key_p1 w K) h)

-- 79 (*holdfast/tree.Tree).load$2
def T93 : Ann := (.seq .none (.block (.loop 8388496 [7] (.seq .none (.seq (.seq .none .none) (.seq (.block (.seq .none .none)) .none))))))
theorem T93_ok : chkFn prog Tryz.f93 T93 = true := by kernel_rfl
def B93 (b_p0 n_p1 : Value) (w : World) (K : Value → World → Prop) : Prop :=
  pv prog (oBi .len #[22] 3 #[false] #[b_p0]) w fun t_0 w =>
  lp (fun σ w again_2 => pop σ fun t_1 σ => fin σ <|
    pvv prog (binOp .lss 3 t_1 t_0) w fun t_3 w =>
    cd t_3 (
      pv prog (oBi .len #[22] 3 #[false] #[b_p0]) w fun t_4 w =>
      pvv prog (binOp .sub 3 t_4 (.int .i64 1)) w fun t_5 w =>
      pvv prog (binOp .sub 3 t_5 t_1) w fun t_6 w =>
      pvv prog (binOp .mul 3 (.int .i64 8) t_1) w fun t_7 w =>
      pvv prog (binOp .shr 3 n_p1 t_7) w fun t_8 w =>
      pvv prog (convert 3 5 t_8) w fun t_9 w =>
      pvv prog (Instr.indexAt 22 b_p0 t_6) w fun t_10 w =>
      efu prog (Instr.storeAt 5 t_10 t_9) w fun u_11 w =>
      pvv prog (binOp .add 3 t_1 (.int .i64 1)) w fun t_12 w =>
      again_2 [t_12] w) <|
    K (.tuple #[]) w) [(.int .i64 0)] w
theorem B93_eq (b_p0 n_p1 : Value) (w : World) (K : Value → World → Prop) : denFn prog Tryz.f93 T93 [b_p0, n_p1] w K = B93 b_p0 n_p1 w K := by kernel_rfl
theorem c93 {b_p0 n_p1 : Value} {w : World} {K : Value → World → Prop} (h : B93 b_p0 n_p1 w K) : Calls prog 93 #[b_p0, n_p1] w (Ret K) :=
  denFn_calls Tryz.func93 T93_ok (Eq.mpr (B93_eq b_p0 n_p1 w K) h)

-- 26 (*holdfast/pager.Pager).Read
def T26 : Ann := (.seq .none (.seq (.seq .none (.seq .none (.seq (.seq .none .none) .none))) (.seq (.seq .none (.seq .none (.seq (.seq .none .none) .none))) (.seq .none .none))))
theorem T26_ok : chkFn prog Tryz.f26 T26 = true := by kernel_rfl
def B26 (p_p0 n_p1 : Value) (w : World) (K : Value → World → Prop) : Prop :=
  Calls prog 63 #[p_p0, n_p1] w (Ret fun t_0 w =>
  pvv prog (oEq .neq 24 (.tmp 12) (.const (.int .i64 0)) t_0 (.int .i64 0)) w fun t_1 w =>
  cd t_1 (
    K (.tuple #[(.slice none 0 0), t_0]) w) <|
  pv prog (oNil p_p0) w fun t_2 w =>
  pvv prog (Instr.fieldAt 119 t_2 2) w fun t_3 w =>
  ldv prog (Instr.loadAt 117 t_3) w fun t_4 w =>
  ldv prog (Instr.lookup 117 t_4 n_p1 true) w fun t_5 w =>
  pvv prog (Instr.extract t_5 0) w fun t_6 w =>
  pvv prog (Instr.extract t_5 1) w fun t_7 w =>
  cd t_7 (
    Calls prog 35 #[t_6] w (Ret fun t_8 w =>
    K (.tuple #[t_8, (.int .i64 0)]) w)) <|
  Calls prog 64 #[p_p0, n_p1] w (Ret fun t_9 w =>
  K (.tuple #[t_9, (.int .i64 0)]) w))
theorem B26_eq (p_p0 n_p1 : Value) (w : World) (K : Value → World → Prop) : denFn prog Tryz.f26 T26 [p_p0, n_p1] w K = B26 p_p0 n_p1 w K := by kernel_rfl
theorem c26 {p_p0 n_p1 : Value} {w : World} {K : Value → World → Prop} (h : B26 p_p0 n_p1 w K) : Calls prog 26 #[p_p0, n_p1] w (Ret K) :=
  denFn_calls Tryz.func26 T26_ok (Eq.mpr (B26_eq p_p0 n_p1 w K) h)

-- 138 maps.Keys[map[int]int,int,int]$1
def T138 : Ann := (.seq .none (.block (.loop 16328 [] (.seq .none (.seq (.seq .none .none) (.block (.seq .none (.seq .none (.seq .none .none)))))))))
theorem T138_ok : chkFn prog Tryz.f138 T138 = true := by kernel_rfl
def B138 (yield_p0 x_p1 : Value) (w : World) (K : Value → World → Prop) : Prop :=
  ldv prog (Instr.loadAt 112 x_p1) w fun t_0 w =>
  efv prog (Instr.range 112 t_0) w fun t_1 w =>
  lp (fun σ w again_2 => fin σ <|
    efv prog (Instr.next t_1 false 0) w fun t_3 w =>
    pvv prog (Instr.extract t_3 0) w fun t_4 w =>
    cd t_4 (
      efv prog (Instr.entry t_1) w fun t_5 w =>
      pvv prog (Instr.extract t_5 0) w fun t_6 w =>
      ef prog (oCall yield_p0 #[t_6]) w fun t_7 w =>
      pvv prog (Op.unary .not t_7) w fun t_8 w =>
      cd t_8 (
        K (.tuple #[]) w) <|
      again_2 [] w) <|
    K (.tuple #[]) w) [] w
theorem B138_eq (yield_p0 x_p1 : Value) (w : World) (K : Value → World → Prop) : denFn prog Tryz.f138 T138 [yield_p0, x_p1] w K = B138 yield_p0 x_p1 w K := by kernel_rfl
theorem c138 {yield_p0 x_p1 : Value} {w : World} {K : Value → World → Prop} (h : B138 yield_p0 x_p1 w K) : Calls prog 138 #[yield_p0, x_p1] w (Ret K) :=
  denFn_calls Tryz.func138 T138_ok (Eq.mpr (B138_eq yield_p0 x_p1 w K) h)

-- 136 slices.AppendSeq[[]int,int]
def T136 : Ann := (.seq .none (.seq (.seq .none (.block (.range .none (.block .none)))) (.seq .none .none)))
theorem T136_ok : chkFn prog Tryz.f136 T136 = true := by kernel_rfl
def B136 (s_p0 seq_p1 : Value) (w : World) (K : Value → World → Prop) : Prop :=
  efv prog (Instr.box 29 s_p0) w fun s_0 w =>
  rng prog 1 seq_p1 (fun σ w bg_2 ex_3 => pop σ fun t_1 σ => fin σ <|
    bg_2 w fun w =>
    ldv prog (Instr.loadAt 29 s_0) w fun t_4 w =>
    efv prog (Instr.buildSlice 29 1 #[(0, t_1)]) w fun t_5 w =>
    ef prog (oBi .append #[29, 29] 29 #[false, false] #[t_4, t_5]) w fun t_6 w =>
    efu prog (Instr.storeAt 29 s_0 t_6) w fun u_7 w =>
    ex_3 .normal w) w fun p_9 D_8 w =>
  jump (
    ldv prog (Instr.loadAt 29 s_0) w fun t_10 w =>
    und [D_8] w fun w => K t_10 w) (
    und [D_8] w fun w => K (.slice none 0 0) w) [] p_9
theorem B136_eq (s_p0 seq_p1 : Value) (w : World) (K : Value → World → Prop) : denFn prog Tryz.f136 T136 [s_p0, seq_p1] w K = B136 s_p0 seq_p1 w K := by kernel_rfl
theorem c136 {s_p0 seq_p1 : Value} {w : World} {K : Value → World → Prop} (h : B136 s_p0 seq_p1 w K) : Calls prog 136 #[s_p0, seq_p1] w (Ret K) :=
  denFn_calls Tryz.func136 T136_ok (Eq.mpr (B136_eq s_p0 seq_p1 w K) h)

-- 109 cmp.Less[int]
def T46 : Ann := (.seq .none (.seq (.seq .none (.seq (.seq .none .none) .none)) (.seq .none .none)))
theorem T46_ok : chkFn prog Tryz.f46 T46 = true := by kernel_rfl
def B46 (p_p0 : Value) (w : World) (K : Value → World → Prop) : Prop :=
  pvv prog (oEq .eql 55 (.tmp 3) (.const (.pointer none)) p_p0 (.pointer none)) w fun t_0 w =>
  cd t_0 (
    K (.slice none 0 0) w) <|
  pv prog (oNil p_p0) w fun t_1 w =>
  pvv prog (Instr.fieldAt 119 t_1 2) w fun t_2 w =>
  ldv prog (Instr.loadAt 117 t_2) w fun t_3 w =>
  Calls prog 77 #[t_3] w (Ret fun t_4 w =>
  Calls prog 76 #[t_4] w (Ret fun t_5 w =>
  K t_5 w))
theorem B46_eq (p_p0 : Value) (w : World) (K : Value → World → Prop) : denFn prog Tryz.f46 T46 [p_p0] w K = B46 p_p0 w K := by kernel_rfl
theorem c46 {p_p0 : Value} {w : World} {K : Value → World → Prop} (h : B46 p_p0 w K) : Calls prog 46 #[p_p0] w (Ret K) :=
  denFn_calls Tryz.func46 T46_ok (Eq.mpr (B46_eq p_p0 w K) h)

-- 84 slices.Clone[[]holdfast/tree.entry,holdfast/tree.entry]
def T84 : Ann := (.seq .none (.seq (.seq .none (.seq (.seq .none .none) .none)) (.seq .none .none)))
theorem T84_ok : chkFn prog Tryz.f84 T84 = true := by kernel_rfl
def B84 (s_p0 : Value) (w : World) (K : Value → World → Prop) : Prop :=
  pvv prog (oEq .eql 61 (.tmp 3) (.const (.slice none 0 0)) s_p0 (.slice none 0 0)) w fun t_0 w =>
  cd t_0 (
    K (.slice none 0 0) w) <|
  efv prog (Instr.buildSlice 61 0 #[]) w fun t_1 w =>
  ef prog (oBi .append #[61, 61] 61 #[false, false] #[t_1, s_p0]) w fun t_2 w =>
  K t_2 w
theorem B84_eq (s_p0 : Value) (w : World) (K : Value → World → Prop) : denFn prog Tryz.f84 T84 [s_p0] w K = B84 s_p0 w K := by kernel_rfl
theorem c84 {s_p0 : Value} {w : World} {K : Value → World → Prop} (h : B84 s_p0 w K) : Calls prog 84 #[s_p0] w (Ret K) :=
  denFn_calls Tryz.func84 T84_ok (Eq.mpr (B84_eq s_p0 w K) h)

-- 89 slices.rotateLeft[holdfast/tree.entry]
def T72 : Ann := (.seq .none (.seq .none .none))
theorem T72_ok : chkFn prog Tryz.f72 T72 = true := by kernel_rfl
def B72 (b_p0 : Value) (w : World) (K : Value → World → Prop) : Prop :=
  pv prog (oBi .len #[22] 3 #[false] #[b_p0]) w fun t_0 w =>
  pvv prog (oEq .neq 3 (.tmp 4) (.const (.int .i64 256)) t_0 (.int .i64 256)) w fun t_1 w =>
  K t_1 w
theorem B72_eq (b_p0 : Value) (w : World) (K : Value → World → Prop) : denFn prog Tryz.f72 T72 [b_p0] w K = B72 b_p0 w K := by kernel_rfl
theorem c72 {b_p0 : Value} {w : World} {K : Value → World → Prop} (h : B72 b_p0 w K) : Calls prog 72 #[b_p0] w (Ret K) :=
  denFn_calls Tryz.func72 T72_ok (Eq.mpr (B72_eq b_p0 w K) h)

-- 37 bytes.Compare
def T37 : Ann := (.seq .none (.seq .none .none))
theorem T37_ok : chkFn prog Tryz.f37 T37 = true := by kernel_rfl
def B37 (a_p0 b_p1 : Value) (w : World) (K : Value → World → Prop) : Prop :=
  ef prog (oCall (.func (.func 70) #[] #[]) #[a_p0, b_p1]) w fun t_0 w =>
  K t_0 w
theorem B37_eq (a_p0 b_p1 : Value) (w : World) (K : Value → World → Prop) : denFn prog Tryz.f37 T37 [a_p0, b_p1] w K = B37 a_p0 b_p1 w K := by kernel_rfl
theorem c37 {a_p0 b_p1 : Value} {w : World} {K : Value → World → Prop} (h : B37 a_p0 b_p1 w K) : Calls prog 37 #[a_p0, b_p1] w (Ret K) :=
  denFn_calls Tryz.func37 T37_ok (Eq.mpr (B37_eq a_p0 b_p1 w K) h)

-- 78 (*holdfast/tree.Tree).load$1
def T78 : Ann := (.seq .none (.seq .none .none))
theorem T78_ok : chkFn prog Tryz.f78 T78 = true := by kernel_rfl
def B78 (x_p0 : Value) (w : World) (K : Value → World → Prop) : Prop :=
  pvv prog (oEq .neq 5 (.tmp 3) (.const (.int .u8 0)) x_p0 (.int .u8 0)) w fun t_0 w =>
  K t_0 w
theorem B78_eq (x_p0 : Value) (w : World) (K : Value → World → Prop) : denFn prog Tryz.f78 T78 [x_p0] w K = B78 x_p0 w K := by kernel_rfl
theorem c78 {x_p0 : Value} {w : World} {K : Value → World → Prop} (h : B78 x_p0 w K) : Calls prog 78 #[x_p0] w (Ret K) :=
  denFn_calls Tryz.func78 T78_ok (Eq.mpr (B78_eq x_p0 w K) h)


end Go.Proofs.YtfaeklinhchidaaGreat
