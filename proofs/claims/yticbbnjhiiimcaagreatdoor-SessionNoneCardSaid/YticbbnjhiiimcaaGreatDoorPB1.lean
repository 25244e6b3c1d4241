import Derived.Test.YticbbnjhiiimcaaGreatDoorPI
set_option linter.all false
set_option maxRecDepth 100000
namespace Go.Proofs.YticbbnjhiiimcaaGreatDoor
open Go Hold
-- 58 slices.partitionCmpFunc[holdfast/api.Row]
def T58 : Ann := (.seq .none (.seq (.draw [.op 0 .pure, .op 1 .pure, .op 2 .pure, .op 3 .pure, .op 4 .pure, .op 5 .pure, .op 6 .pure, .op 8 .pure, .op 9 .pure, .op 10 .pure, .op 7 .load, .op 11 .load, .op 12 .pure, .op 13 .eff, .op 14 .pure, .op 15 .eff]) (.seq .none (.seq (.block (.loop 1125895611879424 [12] (.seq (.seq (.draw [.op 0 .pure, .op 1 .pure, .op 2 .pure, .op 3 .pure, .op 4 .pure, .op 5 .pure, .op 6 .pure, .op 7 .pure, .op 9 .pure, .op 10 .pure, .op 11 .pure, .op 8 .load, .op 12 .load, .op 13 .eff, .op 14 .pure, .op 15 .pure]) (.seq .none .none)) (.block .none)))) (.seq (.block (.loop 590294684458798817280 [13] (.seq (.seq (.draw [.op 0 .pure, .op 1 .pure, .op 2 .pure, .op 3 .pure, .op 4 .pure, .op 5 .pure, .op 6 .pure, .op 7 .pure, .op 9 .pure, .op 10 .pure, .op 11 .pure, .op 8 .load, .op 12 .load, .op 13 .eff, .op 14 .pure, .op 15 .pure, .op 16 .pure]) (.seq .none .none)) (.block .none)))) (.seq (.seq .none (.seq (.seq (.draw [.op 0 .pure, .op 1 .pure, .op 2 .pure, .op 3 .pure, .op 4 .pure, .op 5 .pure, .op 6 .pure, .op 8 .pure, .op 9 .pure, .op 10 .pure, .op 7 .load, .op 11 .load, .op 12 .pure, .op 13 .eff, .op 14 .pure, .op 15 .eff]) (.seq .none .none)) .none)) (.seq (.draw [.op 0 .pure, .op 1 .pure, .op 2 .pure, .op 3 .pure, .op 4 .pure, .op 5 .pure, .op 6 .pure, .op 8 .pure, .op 9 .pure, .op 10 .pure, .op 7 .load, .op 11 .load, .op 12 .pure, .op 13 .eff, .op 14 .pure, .op 15 .eff]) (.seq .none (.seq .none (.seq (.block (.loop 11692013098647223305064659454426923309352957784064 [12, 13] (.block (.seq (.block (.loop 10633783401460119679889608587740188672 [12] (.seq (.seq (.draw [.op 0 .pure, .op 1 .pure, .op 2 .pure, .op 3 .pure, .op 4 .pure, .op 5 .pure, .op 6 .pure, .op 7 .pure, .op 9 .pure, .op 10 .pure, .op 11 .pure, .op 8 .load, .op 12 .load, .op 13 .eff, .op 14 .pure, .op 15 .pure]) (.seq .none .none)) (.block .none)))) (.seq (.block (.loop 5575175665808689506056946337705608133746688 [13] (.seq (.seq (.draw [.op 0 .pure, .op 1 .pure, .op 2 .pure, .op 3 .pure, .op 4 .pure, .op 5 .pure, .op 6 .pure, .op 7 .pure, .op 9 .pure, .op 10 .pure, .op 11 .pure, .op 8 .load, .op 12 .load, .op 13 .eff, .op 14 .pure, .op 15 .pure, .op 16 .pure]) (.seq .none .none)) (.block .none)))) (.seq (.seq .none (.seq .none .none)) (.seq (.draw [.op 0 .pure, .op 1 .pure, .op 2 .pure, .op 3 .pure, .op 4 .pure, .op 5 .pure, .op 6 .pure, .op 8 .pure, .op 9 .pure, .op 10 .pure, .op 7 .load, .op 11 .load, .op 12 .pure, .op 13 .eff, .op 14 .pure, .op 15 .eff]) (.seq .none .none)))))))) (.seq (.draw [.op 0 .pure, .op 1 .pure, .op 2 .pure, .op 3 .pure, .op 4 .pure, .op 5 .pure, .op 6 .pure, .op 8 .pure, .op 9 .pure, .op 10 .pure, .op 7 .load, .op 11 .load, .op 12 .pure, .op 13 .eff, .op 14 .pure, .op 15 .eff]) (.seq .none .none))))))))))))
theorem T58_ok : chkFn prog Tryz.f58 T58 = true := by kernel_rfl
def B58 (data_p0 a_p1 b_p2 pivot_p3 cmp_p4 : Value) (w : World) (K : Value → World → Prop) : Prop :=
  dr w fun w =>
  pvv prog (Instr.indexAt 40 data_p0 pivot_p3) w fun t_0 w =>
  pvv prog (Instr.indexAt 40 data_p0 a_p1) w fun t_1 w =>
  bindS (vN (Instr.loadAt 58 t_0)) fun m_3 => ldv prog (Instr.loadAt 58 t_0) w fun t_2 w =>
  bindS (vN (Instr.loadAt 58 t_1)) fun m_5 => ldv prog (Instr.loadAt 58 t_1) w fun t_4 w =>
  pvv prog (Instr.indexAt 40 data_p0 a_p1) w fun t_6 w =>
  efu prog (Instr.storeAt 58 t_6 t_2) w fun u_7 w =>
  pvv prog (Instr.indexAt 40 data_p0 pivot_p3) w fun t_8 w =>
  efu prog (Instr.storeAt 58 t_8 t_4) w fun u_9 w =>
  pvv prog (binOp .add 3 a_p1 (.int .i64 1)) w fun t_10 w =>
  pvv prog (binOp .sub 3 b_p2 (.int .i64 1)) w fun t_11 w =>
  lp (fun σ w again_13 => pop σ fun i_12 σ => fin σ <|
    dr w fun w =>
    pvv prog (binOp .leq 3 i_12 t_11) w fun t_14 w =>
    gate (some (t_14, true)) (fun K => K cmp_p4 w) w fun t_15 w =>
    gate (some (t_14, true)) (fun K => K data_p0 w) w fun t_16 w =>
    gate (some (t_14, true)) (fun K => K i_12 w) w fun t_17 w =>
    gate (some (t_14, true)) (fun K => pvv prog (Instr.indexAt 40 t_16 t_17) w K) w fun t_18 w =>
    gate (some (t_14, true)) (fun K => K data_p0 w) w fun t_19 w =>
    gate (some (t_14, true)) (fun K => K a_p1 w) w fun t_20 w =>
    gate (some (t_14, true)) (fun K => pvv prog (Instr.indexAt 40 t_19 t_20) w K) w fun t_21 w =>
    bindS (vN (Instr.loadAt 58 t_18)) fun m_23 => gate (some (t_14, true)) (fun K => ldv prog (Instr.loadAt 58 t_18) w K) w fun t_22 w =>
    bindS (vN (Instr.loadAt 58 t_21)) fun m_25 => gate (some (t_14, true)) (fun K => ldv prog (Instr.loadAt 58 t_21) w K) w fun t_24 w =>
    gate (some (t_14, true)) (fun K => ef prog (oCall t_15 #[t_22, t_24]) w fun s_146 w => K s_146 w) w fun t_26 w =>
    gate (some (t_14, true)) (fun K => pvv prog (binOp .lss 3 t_26 (.int .i64 0)) w K) w fun t_27 w =>
    pv prog (oPick t_14 t_27 (.bool false)) w fun t_28 w =>
    cd t_28 (
      pvv prog (binOp .add 3 i_12 (.int .i64 1)) w fun t_29 w =>
      again_13 [t_29] w) <|
    lp (fun σ w again_31 => pop σ fun j_30 σ => fin σ <|
      dr w fun w =>
      pvv prog (binOp .leq 3 i_12 j_30) w fun t_32 w =>
      gate (some (t_32, true)) (fun K => K cmp_p4 w) w fun t_33 w =>
      gate (some (t_32, true)) (fun K => K data_p0 w) w fun t_34 w =>
      gate (some (t_32, true)) (fun K => K j_30 w) w fun t_35 w =>
      gate (some (t_32, true)) (fun K => pvv prog (Instr.indexAt 40 t_34 t_35) w K) w fun t_36 w =>
      gate (some (t_32, true)) (fun K => K data_p0 w) w fun t_37 w =>
      gate (some (t_32, true)) (fun K => K a_p1 w) w fun t_38 w =>
      gate (some (t_32, true)) (fun K => pvv prog (Instr.indexAt 40 t_37 t_38) w K) w fun t_39 w =>
      bindS (vN (Instr.loadAt 58 t_36)) fun m_41 => gate (some (t_32, true)) (fun K => ldv prog (Instr.loadAt 58 t_36) w K) w fun t_40 w =>
      bindS (vN (Instr.loadAt 58 t_39)) fun m_43 => gate (some (t_32, true)) (fun K => ldv prog (Instr.loadAt 58 t_39) w K) w fun t_42 w =>
      gate (some (t_32, true)) (fun K => ef prog (oCall t_33 #[t_40, t_42]) w fun s_145 w => K s_145 w) w fun t_44 w =>
      gate (some (t_32, true)) (fun K => pvv prog (binOp .lss 3 t_44 (.int .i64 0)) w K) w fun t_45 w =>
      gate (some (t_32, true)) (fun K => pvv prog (Op.unary .not t_45) w K) w fun t_46 w =>
      pv prog (oPick t_32 t_46 (.bool false)) w fun t_47 w =>
      cd t_47 (
        pvv prog (binOp .sub 3 j_30 (.int .i64 1)) w fun t_48 w =>
        again_31 [t_48] w) <|
      pvv prog (binOp .gtr 3 i_12 j_30) w fun t_49 w =>
      cd t_49 (
        dr w fun w =>
        pvv prog (Instr.indexAt 40 data_p0 a_p1) w fun t_50 w =>
        pvv prog (Instr.indexAt 40 data_p0 j_30) w fun t_51 w =>
        bindS (vN (Instr.loadAt 58 t_50)) fun m_53 => ldv prog (Instr.loadAt 58 t_50) w fun t_52 w =>
        bindS (vN (Instr.loadAt 58 t_51)) fun m_55 => ldv prog (Instr.loadAt 58 t_51) w fun t_54 w =>
        pvv prog (Instr.indexAt 40 data_p0 j_30) w fun t_56 w =>
        efu prog (Instr.storeAt 58 t_56 t_52) w fun u_57 w =>
        pvv prog (Instr.indexAt 40 data_p0 a_p1) w fun t_58 w =>
        efu prog (Instr.storeAt 58 t_58 t_54) w fun u_59 w =>
        K (.tuple #[j_30, (.bool true)]) w) <|
      dr w fun w =>
      pvv prog (Instr.indexAt 40 data_p0 j_30) w fun t_62 w =>
      pvv prog (Instr.indexAt 40 data_p0 i_12) w fun t_63 w =>
      bindS (vN (Instr.loadAt 58 t_62)) fun m_65 => ldv prog (Instr.loadAt 58 t_62) w fun t_64 w =>
      bindS (vN (Instr.loadAt 58 t_63)) fun m_67 => ldv prog (Instr.loadAt 58 t_63) w fun t_66 w =>
      pvv prog (Instr.indexAt 40 data_p0 i_12) w fun t_68 w =>
      efu prog (Instr.storeAt 58 t_68 t_64) w fun u_69 w =>
      pvv prog (Instr.indexAt 40 data_p0 j_30) w fun t_70 w =>
      efu prog (Instr.storeAt 58 t_70 t_66) w fun u_71 w =>
      pvv prog (binOp .add 3 i_12 (.int .i64 1)) w fun t_72 w =>
      pvv prog (binOp .sub 3 j_30 (.int .i64 1)) w fun t_73 w =>
      lp (fun σ w again_76 => pop σ fun i_74 σ => pop σ fun j_75 σ => fin σ <|
        lp (fun σ w again_78 => pop σ fun i_77 σ => fin σ <|
          dr w fun w =>
          pvv prog (binOp .leq 3 i_77 j_75) w fun t_79 w =>
          gate (some (t_79, true)) (fun K => K cmp_p4 w) w fun t_80 w =>
          gate (some (t_79, true)) (fun K => K data_p0 w) w fun t_81 w =>
          gate (some (t_79, true)) (fun K => K i_77 w) w fun t_82 w =>
          gate (some (t_79, true)) (fun K => pvv prog (Instr.indexAt 40 t_81 t_82) w K) w fun t_83 w =>
          gate (some (t_79, true)) (fun K => K data_p0 w) w fun t_84 w =>
          gate (some (t_79, true)) (fun K => K a_p1 w) w fun t_85 w =>
          gate (some (t_79, true)) (fun K => pvv prog (Instr.indexAt 40 t_84 t_85) w K) w fun t_86 w =>
          bindS (vN (Instr.loadAt 58 t_83)) fun m_88 => gate (some (t_79, true)) (fun K => ldv prog (Instr.loadAt 58 t_83) w K) w fun t_87 w =>
          bindS (vN (Instr.loadAt 58 t_86)) fun m_90 => gate (some (t_79, true)) (fun K => ldv prog (Instr.loadAt 58 t_86) w K) w fun t_89 w =>
          gate (some (t_79, true)) (fun K => ef prog (oCall t_80 #[t_87, t_89]) w fun s_142 w => K s_142 w) w fun t_91 w =>
          gate (some (t_79, true)) (fun K => pvv prog (binOp .lss 3 t_91 (.int .i64 0)) w K) w fun t_92 w =>
          pv prog (oPick t_79 t_92 (.bool false)) w fun t_93 w =>
          cd t_93 (
            pvv prog (binOp .add 3 i_77 (.int .i64 1)) w fun t_94 w =>
            again_78 [t_94] w) <|
          lp (fun σ w again_96 => pop σ fun j_95 σ => fin σ <|
            dr w fun w =>
            pvv prog (binOp .leq 3 i_77 j_95) w fun t_97 w =>
            gate (some (t_97, true)) (fun K => K cmp_p4 w) w fun t_98 w =>
            gate (some (t_97, true)) (fun K => K data_p0 w) w fun t_99 w =>
            gate (some (t_97, true)) (fun K => K j_95 w) w fun t_100 w =>
            gate (some (t_97, true)) (fun K => pvv prog (Instr.indexAt 40 t_99 t_100) w K) w fun t_101 w =>
            gate (some (t_97, true)) (fun K => K data_p0 w) w fun t_102 w =>
            gate (some (t_97, true)) (fun K => K a_p1 w) w fun t_103 w =>
            gate (some (t_97, true)) (fun K => pvv prog (Instr.indexAt 40 t_102 t_103) w K) w fun t_104 w =>
            bindS (vN (Instr.loadAt 58 t_101)) fun m_106 => gate (some (t_97, true)) (fun K => ldv prog (Instr.loadAt 58 t_101) w K) w fun t_105 w =>
            bindS (vN (Instr.loadAt 58 t_104)) fun m_108 => gate (some (t_97, true)) (fun K => ldv prog (Instr.loadAt 58 t_104) w K) w fun t_107 w =>
            gate (some (t_97, true)) (fun K => ef prog (oCall t_98 #[t_105, t_107]) w fun s_141 w => K s_141 w) w fun t_109 w =>
            gate (some (t_97, true)) (fun K => pvv prog (binOp .lss 3 t_109 (.int .i64 0)) w K) w fun t_110 w =>
            gate (some (t_97, true)) (fun K => pvv prog (Op.unary .not t_110) w K) w fun t_111 w =>
            pv prog (oPick t_97 t_111 (.bool false)) w fun t_112 w =>
            cd t_112 (
              pvv prog (binOp .sub 3 j_95 (.int .i64 1)) w fun t_113 w =>
              again_96 [t_113] w) <|
            pvv prog (binOp .gtr 3 i_77 j_95) w fun t_114 w =>
            cd t_114 (
              dr w fun w =>
              pvv prog (Instr.indexAt 40 data_p0 a_p1) w fun t_115 w =>
              pvv prog (Instr.indexAt 40 data_p0 j_95) w fun t_116 w =>
              bindS (vN (Instr.loadAt 58 t_115)) fun m_118 => ldv prog (Instr.loadAt 58 t_115) w fun t_117 w =>
              bindS (vN (Instr.loadAt 58 t_116)) fun m_120 => ldv prog (Instr.loadAt 58 t_116) w fun t_119 w =>
              pvv prog (Instr.indexAt 40 data_p0 j_95) w fun t_121 w =>
              efu prog (Instr.storeAt 58 t_121 t_117) w fun u_122 w =>
              pvv prog (Instr.indexAt 40 data_p0 a_p1) w fun t_123 w =>
              efu prog (Instr.storeAt 58 t_123 t_119) w fun u_124 w =>
              K (.tuple #[j_95, (.bool false)]) w) <|
            dr w fun w =>
            pvv prog (Instr.indexAt 40 data_p0 j_95) w fun t_127 w =>
            pvv prog (Instr.indexAt 40 data_p0 i_77) w fun t_128 w =>
            bindS (vN (Instr.loadAt 58 t_127)) fun m_130 => ldv prog (Instr.loadAt 58 t_127) w fun t_129 w =>
            bindS (vN (Instr.loadAt 58 t_128)) fun m_132 => ldv prog (Instr.loadAt 58 t_128) w fun t_131 w =>
            pvv prog (Instr.indexAt 40 data_p0 i_77) w fun t_133 w =>
            efu prog (Instr.storeAt 58 t_133 t_129) w fun u_134 w =>
            pvv prog (Instr.indexAt 40 data_p0 j_95) w fun t_135 w =>
            efu prog (Instr.storeAt 58 t_135 t_131) w fun u_136 w =>
            pvv prog (binOp .add 3 i_77 (.int .i64 1)) w fun t_137 w =>
            pvv prog (binOp .sub 3 j_95 (.int .i64 1)) w fun t_138 w =>
            again_76 [t_137, t_138] w) [j_75] w) [i_74] w) [t_72, t_73] w) [t_11] w) [t_10] w
theorem B58_eq (data_p0 a_p1 b_p2 pivot_p3 cmp_p4 : Value) (w : World) (K : Value → World → Prop) : denFn prog Tryz.f58 T58 [data_p0, a_p1, b_p2, pivot_p3, cmp_p4] w K = B58 data_p0 a_p1 b_p2 pivot_p3 cmp_p4 w K := by kernel_rfl
theorem c58 {data_p0 a_p1 b_p2 pivot_p3 cmp_p4 : Value} {w : World} {K : Value → World → Prop} (h : B58 data_p0 a_p1 b_p2 pivot_p3 cmp_p4 w K) : Calls prog 58 #[data_p0, a_p1, b_p2, pivot_p3, cmp_p4] w (Ret K) :=
  denFn_calls Tryz.func58 T58_ok (Eq.mpr (B58_eq data_p0 a_p1 b_p2 pivot_p3 cmp_p4 w K) h)

-- 57 slices.partitionEqualCmpFunc[holdfast/api.Row]
def T57 : Ann := (.seq .none (.seq (.draw [.op 0 .pure, .op 1 .pure, .op 2 .pure, .op 3 .pure, .op 4 .pure, .op 5 .pure, .op 6 .pure, .op 8 .pure, .op 9 .pure, .op 10 .pure, .op 7 .load, .op 11 .load, .op 12 .pure, .op 13 .eff, .op 14 .pure, .op 15 .eff]) (.seq .none (.seq (.block (.loop 618970019642690135302084608 [11, 12] (.block (.seq (.block (.loop 1125897759361024 [11] (.seq (.seq (.draw [.op 0 .pure, .op 1 .pure, .op 2 .pure, .op 3 .pure, .op 4 .pure, .op 5 .pure, .op 6 .pure, .op 7 .pure, .op 9 .pure, .op 10 .pure, .op 11 .pure, .op 8 .load, .op 12 .load, .op 13 .eff, .op 14 .pure, .op 15 .pure, .op 16 .pure]) (.seq .none .none)) (.block .none)))) (.seq (.block (.loop 295146779279445987328 [12] (.seq (.seq (.draw [.op 0 .pure, .op 1 .pure, .op 2 .pure, .op 3 .pure, .op 4 .pure, .op 5 .pure, .op 6 .pure, .op 7 .pure, .op 9 .pure, .op 10 .pure, .op 11 .pure, .op 8 .load, .op 12 .load, .op 13 .eff, .op 14 .pure, .op 15 .pure]) (.seq .none .none)) (.block .none)))) (.seq (.seq .none (.seq .none .none)) (.seq (.draw [.op 0 .pure, .op 1 .pure, .op 2 .pure, .op 3 .pure, .op 4 .pure, .op 5 .pure, .op 6 .pure, .op 8 .pure, .op 9 .pure, .op 10 .pure, .op 7 .load, .op 11 .load, .op 12 .pure, .op 13 .eff, .op 14 .pure, .op 15 .eff]) (.seq .none .none)))))))) (.seq .none .none)))))
theorem T57_ok : chkFn prog Tryz.f57 T57 = true := by kernel_rfl
def B57 (data_p0 a_p1 b_p2 pivot_p3 cmp_p4 : Value) (w : World) (K : Value → World → Prop) : Prop :=
  dr w fun w =>
  pvv prog (Instr.indexAt 40 data_p0 pivot_p3) w fun t_0 w =>
  pvv prog (Instr.indexAt 40 data_p0 a_p1) w fun t_1 w =>
  bindS (vN (Instr.loadAt 58 t_0)) fun m_3 => ldv prog (Instr.loadAt 58 t_0) w fun t_2 w =>
  bindS (vN (Instr.loadAt 58 t_1)) fun m_5 => ldv prog (Instr.loadAt 58 t_1) w fun t_4 w =>
  pvv prog (Instr.indexAt 40 data_p0 a_p1) w fun t_6 w =>
  efu prog (Instr.storeAt 58 t_6 t_2) w fun u_7 w =>
  pvv prog (Instr.indexAt 40 data_p0 pivot_p3) w fun t_8 w =>
  efu prog (Instr.storeAt 58 t_8 t_4) w fun u_9 w =>
  pvv prog (binOp .add 3 a_p1 (.int .i64 1)) w fun t_10 w =>
  pvv prog (binOp .sub 3 b_p2 (.int .i64 1)) w fun t_11 w =>
  lp (fun σ w again_14 => pop σ fun i_12 σ => pop σ fun j_13 σ => fin σ <|
    lp (fun σ w again_16 => pop σ fun i_15 σ => fin σ <|
      dr w fun w =>
      pvv prog (binOp .leq 3 i_15 j_13) w fun t_17 w =>
      gate (some (t_17, true)) (fun K => K cmp_p4 w) w fun t_18 w =>
      gate (some (t_17, true)) (fun K => K data_p0 w) w fun t_19 w =>
      gate (some (t_17, true)) (fun K => K a_p1 w) w fun t_20 w =>
      gate (some (t_17, true)) (fun K => pvv prog (Instr.indexAt 40 t_19 t_20) w K) w fun t_21 w =>
      gate (some (t_17, true)) (fun K => K data_p0 w) w fun t_22 w =>
      gate (some (t_17, true)) (fun K => K i_15 w) w fun t_23 w =>
      gate (some (t_17, true)) (fun K => pvv prog (Instr.indexAt 40 t_22 t_23) w K) w fun t_24 w =>
      bindS (vN (Instr.loadAt 58 t_21)) fun m_26 => gate (some (t_17, true)) (fun K => ldv prog (Instr.loadAt 58 t_21) w K) w fun t_25 w =>
      bindS (vN (Instr.loadAt 58 t_24)) fun m_28 => gate (some (t_17, true)) (fun K => ldv prog (Instr.loadAt 58 t_24) w K) w fun t_27 w =>
      gate (some (t_17, true)) (fun K => ef prog (oCall t_18 #[t_25, t_27]) w fun s_68 w => K s_68 w) w fun t_29 w =>
      gate (some (t_17, true)) (fun K => pvv prog (binOp .lss 3 t_29 (.int .i64 0)) w K) w fun t_30 w =>
      gate (some (t_17, true)) (fun K => pvv prog (Op.unary .not t_30) w K) w fun t_31 w =>
      pv prog (oPick t_17 t_31 (.bool false)) w fun t_32 w =>
      cd t_32 (
        pvv prog (binOp .add 3 i_15 (.int .i64 1)) w fun t_33 w =>
        again_16 [t_33] w) <|
      lp (fun σ w again_35 => pop σ fun j_34 σ => fin σ <|
        dr w fun w =>
        pvv prog (binOp .leq 3 i_15 j_34) w fun t_36 w =>
        gate (some (t_36, true)) (fun K => K cmp_p4 w) w fun t_37 w =>
        gate (some (t_36, true)) (fun K => K data_p0 w) w fun t_38 w =>
        gate (some (t_36, true)) (fun K => K a_p1 w) w fun t_39 w =>
        gate (some (t_36, true)) (fun K => pvv prog (Instr.indexAt 40 t_38 t_39) w K) w fun t_40 w =>
        gate (some (t_36, true)) (fun K => K data_p0 w) w fun t_41 w =>
        gate (some (t_36, true)) (fun K => K j_34 w) w fun t_42 w =>
        gate (some (t_36, true)) (fun K => pvv prog (Instr.indexAt 40 t_41 t_42) w K) w fun t_43 w =>
        bindS (vN (Instr.loadAt 58 t_40)) fun m_45 => gate (some (t_36, true)) (fun K => ldv prog (Instr.loadAt 58 t_40) w K) w fun t_44 w =>
        bindS (vN (Instr.loadAt 58 t_43)) fun m_47 => gate (some (t_36, true)) (fun K => ldv prog (Instr.loadAt 58 t_43) w K) w fun t_46 w =>
        gate (some (t_36, true)) (fun K => ef prog (oCall t_37 #[t_44, t_46]) w fun s_67 w => K s_67 w) w fun t_48 w =>
        gate (some (t_36, true)) (fun K => pvv prog (binOp .lss 3 t_48 (.int .i64 0)) w K) w fun t_49 w =>
        pv prog (oPick t_36 t_49 (.bool false)) w fun t_50 w =>
        cd t_50 (
          pvv prog (binOp .sub 3 j_34 (.int .i64 1)) w fun t_51 w =>
          again_35 [t_51] w) <|
        pvv prog (binOp .gtr 3 i_15 j_34) w fun t_52 w =>
        cd t_52 (
          K i_15 w) <|
        dr w fun w =>
        pvv prog (Instr.indexAt 40 data_p0 j_34) w fun t_53 w =>
        pvv prog (Instr.indexAt 40 data_p0 i_15) w fun t_54 w =>
        bindS (vN (Instr.loadAt 58 t_53)) fun m_56 => ldv prog (Instr.loadAt 58 t_53) w fun t_55 w =>
        bindS (vN (Instr.loadAt 58 t_54)) fun m_58 => ldv prog (Instr.loadAt 58 t_54) w fun t_57 w =>
        pvv prog (Instr.indexAt 40 data_p0 i_15) w fun t_59 w =>
        efu prog (Instr.storeAt 58 t_59 t_55) w fun u_60 w =>
        pvv prog (Instr.indexAt 40 data_p0 j_34) w fun t_61 w =>
        efu prog (Instr.storeAt 58 t_61 t_57) w fun u_62 w =>
        pvv prog (binOp .add 3 i_15 (.int .i64 1)) w fun t_63 w =>
        pvv prog (binOp .sub 3 j_34 (.int .i64 1)) w fun t_64 w =>
        again_14 [t_63, t_64] w) [j_13] w) [i_12] w) [t_10, t_11] w
theorem B57_eq (data_p0 a_p1 b_p2 pivot_p3 cmp_p4 : Value) (w : World) (K : Value → World → Prop) : denFn prog Tryz.f57 T57 [data_p0, a_p1, b_p2, pivot_p3, cmp_p4] w K = B57 data_p0 a_p1 b_p2 pivot_p3 cmp_p4 w K := by kernel_rfl
theorem c57 {data_p0 a_p1 b_p2 pivot_p3 cmp_p4 : Value} {w : World} {K : Value → World → Prop} (h : B57 data_p0 a_p1 b_p2 pivot_p3 cmp_p4 w K) : Calls prog 57 #[data_p0, a_p1, b_p2, pivot_p3, cmp_p4] w (Ret K) :=
  denFn_calls Tryz.func57 T57_ok (Eq.mpr (B57_eq data_p0 a_p1 b_p2 pivot_p3 cmp_p4 w K) h)

-- 74 unicode/utf8.decodeRuneInStringSlow
def T74 : Ann := (.seq .none (.seq .none (.seq (.seq .none (.seq (.seq .none .none) .none)) (.seq .none (.seq .none (.seq (.seq .none (.seq (.seq .none (.seq .none .none)) .none)) (.seq .none (.seq .none (.seq (.seq .none (.seq (.seq .none .none) .none)) (.seq .none (.seq (.seq .none (.seq (.seq .none .none) .none)) (.seq (.seq .none (.seq (.seq .none .none) .none)) (.seq .none (.seq (.seq .none (.seq (.seq .none .none) .none)) (.seq (.seq .none (.seq (.seq .none .none) .none)) (.seq .none (.seq (.seq .none (.seq (.seq .none .none) .none)) (.seq .none .none))))))))))))))))))
theorem T74_ok : chkFn prog Tryz.f74 T74 = true := by kernel_rfl
def B74 (s_p0 : Value) (w : World) (K : Value → World → Prop) : Prop :=
  pv prog (oBi .len #[9] 3 #[false] #[s_p0]) w fun t_0 w =>
  pvv prog (binOp .lss 3 t_0 (.int .i64 1)) w fun t_1 w =>
  cd t_1 (
    K (.tuple #[(.int .i32 65533), (.int .i64 0)]) w) <|
  pvv prog (Instr.index 9 s_p0 (.int .i64 0)) w fun t_2 w =>
  pvv prog (Instr.indexAt 126 (.pointer (some ⟨0, 0, none⟩)) t_2) w fun t_3 w =>
  ldv prog (Instr.loadAt 5 t_3) w fun t_4 w =>
  pvv prog (binOp .geq 5 t_4 (.int .u8 240)) w fun t_5 w =>
  cd t_5 (
    pvv prog (convert 5 21 t_4) w fun t_6 w =>
    pvv prog (binOp .shl 21 t_6 (.int .u64 31)) w fun t_7 w =>
    pvv prog (binOp .shr 21 t_7 (.int .u64 31)) w fun t_8 w =>
    pvv prog (Instr.index 9 s_p0 (.int .i64 0)) w fun t_9 w =>
    pvv prog (convert 5 21 t_9) w fun t_10 w =>
    pvv prog (binOp .andNot 21 t_10 t_8) w fun t_11 w =>
    pvv prog (binOp .and 21 (.int .i32 65533) t_8) w fun t_12 w =>
    pvv prog (binOp .or 21 t_11 t_12) w fun t_13 w =>
    K (.tuple #[t_13, (.int .i64 1)]) w) <|
  pvv prog (binOp .and 5 t_4 (.int .u8 7)) w fun t_14 w =>
  pvv prog (convert 5 3 t_14) w fun t_15 w =>
  pvv prog (binOp .shr 5 t_4 (.int .u64 4)) w fun t_16 w =>
  pvv prog (Instr.indexAt 129 (.pointer (some ⟨1, 0, none⟩)) t_16) w fun t_17 w =>
  ldv prog (Instr.loadAt 128 t_17) w fun t_18 w =>
  efv prog (Instr.alloc 128 true (.tuple #[])) w fun accept_19 w =>
  efu prog (Instr.storeAt 128 accept_19 t_18) w fun u_20 w =>
  pvv prog (binOp .lss 3 t_0 t_15) w fun t_21 w =>
  cd t_21 (
    K (.tuple #[(.int .i32 65533), (.int .i64 1)]) w) <|
  pvv prog (Instr.index 9 s_p0 (.int .i64 1)) w fun t_22 w =>
  pvv prog (Instr.fieldAt 128 accept_19 0) w fun t_23 w =>
  ldv prog (Instr.loadAt 5 t_23) w fun t_24 w =>
  pvv prog (binOp .lss 5 t_22 t_24) w fun t_25 w =>
  gate (some (t_25, false)) (fun K => pvv prog (Instr.fieldAt 128 accept_19 1) w K) w fun t_26 w =>
  gate (some (t_25, false)) (fun K => ldv prog (Instr.loadAt 5 t_26) w K) w fun t_27 w =>
  gate (some (t_25, false)) (fun K => K t_22 w) w fun t_28 w =>
  gate (some (t_25, false)) (fun K => pvv prog (binOp .lss 5 t_27 t_28) w K) w fun t_29 w =>
  pv prog (oPick t_25 (.bool true) t_29) w fun t_30 w =>
  cd t_30 (
    K (.tuple #[(.int .i32 65533), (.int .i64 1)]) w) <|
  pvv prog (binOp .leq 3 t_15 (.int .i64 2)) w fun t_31 w =>
  cd t_31 (
    pvv prog (binOp .and 5 t_2 (.int .u8 31)) w fun t_32 w =>
    pvv prog (convert 5 21 t_32) w fun t_33 w =>
    pvv prog (binOp .shl 21 t_33 (.int .u64 6)) w fun t_34 w =>
    pvv prog (binOp .and 5 t_22 (.int .u8 63)) w fun t_35 w =>
    pvv prog (convert 5 21 t_35) w fun t_36 w =>
    pvv prog (binOp .or 21 t_34 t_36) w fun t_37 w =>
    K (.tuple #[t_37, (.int .i64 2)]) w) <|
  pvv prog (Instr.index 9 s_p0 (.int .i64 2)) w fun t_38 w =>
  pvv prog (binOp .lss 5 t_38 (.int .u8 128)) w fun t_39 w =>
  gate (some (t_39, false)) (fun K => K t_38 w) w fun t_40 w =>
  gate (some (t_39, false)) (fun K => pvv prog (binOp .lss 5 (.int .u8 191) t_40) w K) w fun t_41 w =>
  pv prog (oPick t_39 (.bool true) t_41) w fun t_42 w =>
  cd t_42 (
    K (.tuple #[(.int .i32 65533), (.int .i64 1)]) w) <|
  pvv prog (binOp .leq 3 t_15 (.int .i64 3)) w fun t_43 w =>
  cd t_43 (
    pvv prog (binOp .and 5 t_2 (.int .u8 15)) w fun t_44 w =>
    pvv prog (convert 5 21 t_44) w fun t_45 w =>
    pvv prog (binOp .shl 21 t_45 (.int .u64 12)) w fun t_46 w =>
    pvv prog (binOp .and 5 t_22 (.int .u8 63)) w fun t_47 w =>
    pvv prog (convert 5 21 t_47) w fun t_48 w =>
    pvv prog (binOp .shl 21 t_48 (.int .u64 6)) w fun t_49 w =>
    pvv prog (binOp .or 21 t_46 t_49) w fun t_50 w =>
    pvv prog (binOp .and 5 t_38 (.int .u8 63)) w fun t_51 w =>
    pvv prog (convert 5 21 t_51) w fun t_52 w =>
    pvv prog (binOp .or 21 t_50 t_52) w fun t_53 w =>
    K (.tuple #[t_53, (.int .i64 3)]) w) <|
  pvv prog (Instr.index 9 s_p0 (.int .i64 3)) w fun t_54 w =>
  pvv prog (binOp .lss 5 t_54 (.int .u8 128)) w fun t_55 w =>
  gate (some (t_55, false)) (fun K => K t_54 w) w fun t_56 w =>
  gate (some (t_55, false)) (fun K => pvv prog (binOp .lss 5 (.int .u8 191) t_56) w K) w fun t_57 w =>
  pv prog (oPick t_55 (.bool true) t_57) w fun t_58 w =>
  cd t_58 (
    K (.tuple #[(.int .i32 65533), (.int .i64 1)]) w) <|
  pvv prog (binOp .and 5 t_2 (.int .u8 7)) w fun t_59 w =>
  pvv prog (convert 5 21 t_59) w fun t_60 w =>
  pvv prog (binOp .shl 21 t_60 (.int .u64 18)) w fun t_61 w =>
  pvv prog (binOp .and 5 t_22 (.int .u8 63)) w fun t_62 w =>
  pvv prog (convert 5 21 t_62) w fun t_63 w =>
  pvv prog (binOp .shl 21 t_63 (.int .u64 12)) w fun t_64 w =>
  pvv prog (binOp .or 21 t_61 t_64) w fun t_65 w =>
  pvv prog (binOp .and 5 t_38 (.int .u8 63)) w fun t_66 w =>
  pvv prog (convert 5 21 t_66) w fun t_67 w =>
  pvv prog (binOp .shl 21 t_67 (.int .u64 6)) w fun t_68 w =>
  pvv prog (binOp .or 21 t_65 t_68) w fun t_69 w =>
  pvv prog (binOp .and 5 t_54 (.int .u8 63)) w fun t_70 w =>
  pvv prog (convert 5 21 t_70) w fun t_71 w =>
  pvv prog (binOp .or 21 t_69 t_71) w fun t_72 w =>
  K (.tuple #[t_72, (.int .i64 4)]) w
theorem B74_eq (s_p0 : Value) (w : World) (K : Value → World → Prop) : denFn prog Tryz.f74 T74 [s_p0] w K = B74 s_p0 w K := by kernel_rfl
theorem c74 {s_p0 : Value} {w : World} {K : Value → World → Prop} (h : B74 s_p0 w K) : Calls prog 74 #[s_p0] w (Ret K) :=
  denFn_calls Tryz.func74 T74_ok (Eq.mpr (B74_eq s_p0 w K) h)

-- 69 slices.siftDownCmpFunc[holdfast/api.Row]
def T69 : Ann := (.seq .none (.block (.loop 4835703278458516698819584 [10] (.block (.seq .none (.seq (.seq .none (.seq .none .none)) (.meet 8796092499968 [11] (.seq (.draw [.op 0 .pure, .op 1 .pure, .op 2 .pure, .op 3 .pure, .op 4 .pure, .op 5 .pure, .op 6 .pure, .op 7 .pure, .op 8 .pure, .op 9 .pure, .op 10 .pure, .op 12 .pure, .op 13 .pure, .op 14 .pure, .op 15 .pure, .op 16 .pure, .op 17 .pure, .op 11 .load, .op 18 .load, .op 19 .eff, .op 20 .pure, .op 21 .pure]) (.seq .none .none)) (.seq (.seq (.draw [.op 0 .pure, .op 1 .pure, .op 2 .pure, .op 3 .pure, .op 4 .pure, .op 5 .pure, .op 7 .pure, .op 8 .pure, .op 9 .pure, .op 10 .pure, .op 11 .pure, .op 6 .load, .op 12 .load, .op 13 .eff, .op 14 .pure, .op 15 .pure]) (.seq .none .none)) (.seq (.draw [.op 0 .pure, .op 1 .pure, .op 2 .pure, .op 3 .pure, .op 4 .pure, .op 5 .pure, .op 6 .pure, .op 7 .pure, .op 8 .pure, .op 9 .pure, .op 10 .pure, .op 11 .pure, .op 12 .pure, .op 14 .pure, .op 15 .pure, .op 16 .pure, .op 17 .pure, .op 18 .pure, .op 13 .load, .op 19 .load, .op 20 .pure, .op 21 .eff, .op 22 .pure, .op 23 .eff]) .none)))))))))
theorem T69_ok : chkFn prog Tryz.f69 T69 = true := by kernel_rfl
def B69 (data_p0 lo_p1 hi_p2 first_p3 cmp_p4 : Value) (w : World) (K : Value → World → Prop) : Prop :=
  lp (fun σ w again_1 => pop σ fun root_0 σ => fin σ <|
    pvv prog (binOp .mul 3 (.int .i64 2) root_0) w fun t_2 w =>
    pvv prog (binOp .add 3 t_2 (.int .i64 1)) w fun t_3 w =>
    pvv prog (binOp .geq 3 t_3 hi_p2) w fun t_4 w =>
    cd t_4 (
      K (.tuple #[]) w) <|
    jn (fun σ w => pop σ fun child_5 σ => fin σ <|
      dr w fun w =>
      pvv prog (binOp .add 3 first_p3 root_0) w fun t_6 w =>
      pvv prog (Instr.indexAt 40 data_p0 t_6) w fun t_7 w =>
      pvv prog (binOp .add 3 first_p3 child_5) w fun t_8 w =>
      pvv prog (Instr.indexAt 40 data_p0 t_8) w fun t_9 w =>
      bindS (vN (Instr.loadAt 58 t_7)) fun m_11 => ldv prog (Instr.loadAt 58 t_7) w fun t_10 w =>
      bindS (vN (Instr.loadAt 58 t_9)) fun m_13 => ldv prog (Instr.loadAt 58 t_9) w fun t_12 w =>
      ef prog (oCall cmp_p4 #[t_10, t_12]) w fun t_14 w =>
      pvv prog (binOp .lss 3 t_14 (.int .i64 0)) w fun t_15 w =>
      pvv prog (Op.unary .not t_15) w fun t_16 w =>
      cd t_16 (
        K (.tuple #[]) w) <|
      dr w fun w =>
      pvv prog (binOp .add 3 first_p3 root_0) w fun t_17 w =>
      pvv prog (binOp .add 3 first_p3 child_5) w fun t_18 w =>
      pvv prog (binOp .add 3 first_p3 child_5) w fun t_19 w =>
      pvv prog (Instr.indexAt 40 data_p0 t_19) w fun t_20 w =>
      pvv prog (binOp .add 3 first_p3 root_0) w fun t_21 w =>
      pvv prog (Instr.indexAt 40 data_p0 t_21) w fun t_22 w =>
      bindS (vN (Instr.loadAt 58 t_20)) fun m_24 => ldv prog (Instr.loadAt 58 t_20) w fun t_23 w =>
      bindS (vN (Instr.loadAt 58 t_22)) fun m_26 => ldv prog (Instr.loadAt 58 t_22) w fun t_25 w =>
      pvv prog (Instr.indexAt 40 data_p0 t_17) w fun t_27 w =>
      efu prog (Instr.storeAt 58 t_27 t_23) w fun u_28 w =>
      pvv prog (Instr.indexAt 40 data_p0 t_18) w fun t_29 w =>
      efu prog (Instr.storeAt 58 t_29 t_25) w fun u_30 w =>
      again_1 [child_5] w) fun k_34 =>
    dr w fun w =>
    pvv prog (binOp .add 3 t_3 (.int .i64 1)) w fun t_35 w =>
    pvv prog (binOp .lss 3 t_35 hi_p2) w fun t_36 w =>
    gate (some (t_36, true)) (fun K => K cmp_p4 w) w fun t_37 w =>
    gate (some (t_36, true)) (fun K => K data_p0 w) w fun t_38 w =>
    gate (some (t_36, true)) (fun K => K first_p3 w) w fun t_39 w =>
    gate (some (t_36, true)) (fun K => K t_3 w) w fun t_40 w =>
    gate (some (t_36, true)) (fun K => pvv prog (binOp .add 3 t_39 t_40) w K) w fun t_41 w =>
    gate (some (t_36, true)) (fun K => pvv prog (Instr.indexAt 40 t_38 t_41) w K) w fun t_42 w =>
    gate (some (t_36, true)) (fun K => K data_p0 w) w fun t_43 w =>
    gate (some (t_36, true)) (fun K => K first_p3 w) w fun t_44 w =>
    gate (some (t_36, true)) (fun K => K t_3 w) w fun t_45 w =>
    gate (some (t_36, true)) (fun K => pvv prog (binOp .add 3 t_44 t_45) w K) w fun t_46 w =>
    gate (some (t_36, true)) (fun K => pvv prog (binOp .add 3 t_46 (.int .i64 1)) w K) w fun t_47 w =>
    gate (some (t_36, true)) (fun K => pvv prog (Instr.indexAt 40 t_43 t_47) w K) w fun t_48 w =>
    bindS (vN (Instr.loadAt 58 t_42)) fun m_50 => gate (some (t_36, true)) (fun K => ldv prog (Instr.loadAt 58 t_42) w K) w fun t_49 w =>
    bindS (vN (Instr.loadAt 58 t_48)) fun m_52 => gate (some (t_36, true)) (fun K => ldv prog (Instr.loadAt 58 t_48) w K) w fun t_51 w =>
    gate (some (t_36, true)) (fun K => ef prog (oCall t_37 #[t_49, t_51]) w fun s_57 w => K s_57 w) w fun t_53 w =>
    gate (some (t_36, true)) (fun K => pvv prog (binOp .lss 3 t_53 (.int .i64 0)) w K) w fun t_54 w =>
    pv prog (oPick t_36 t_54 (.bool false)) w fun t_55 w =>
    cd t_55 (
      pvv prog (binOp .add 3 t_3 (.int .i64 1)) w fun t_56 w =>
      k_34 [t_56] w) <|
    k_34 [t_3] w) [lo_p1] w
theorem B69_eq (data_p0 lo_p1 hi_p2 first_p3 cmp_p4 : Value) (w : World) (K : Value → World → Prop) : denFn prog Tryz.f69 T69 [data_p0, lo_p1, hi_p2, first_p3, cmp_p4] w K = B69 data_p0 lo_p1 hi_p2 first_p3 cmp_p4 w K := by kernel_rfl
theorem c69 {data_p0 lo_p1 hi_p2 first_p3 cmp_p4 : Value} {w : World} {K : Value → World → Prop} (h : B69 data_p0 lo_p1 hi_p2 first_p3 cmp_p4 w K) : Calls prog 69 #[data_p0, lo_p1, hi_p2, first_p3, cmp_p4] w (Ret K) :=
  denFn_calls Tryz.func69 T69_ok (Eq.mpr (B69_eq data_p0 lo_p1 hi_p2 first_p3 cmp_p4 w K) h)

-- 12 (*holdfast/session.Table).Rows
def T12 : Ann := (.seq .none (.seq (.seq .none (.seq (.seq .none .none) .none)) (.seq (.draw [.op 0 .pure, .op 1 .pure, .op 2 .pure, .op 5 .pure, .op 6 .pure, .op 7 .pure, .op 8 .pure, .op 3 .load, .op 9 .load, .op 4 .eff, .op 10 .eff, .op 11 .eff, .op 12 .pure, .op 13 .eff, .op 14 .pure]) (.seq (.seq .none (.block (.loop 2251799679467576 [3] (.seq .none (.seq (.seq .none .none) (.block (.seq .none (.draw [.op 0 .pure, .op 1 .pure, .op 3 .pure, .op 4 .pure, .op 6 .pure, .op 7 .pure, .op 9 .pure, .op 12 .pure, .op 5 .load, .op 8 .load, .op 10 .load, .op 13 .load, .op 2 .eff, .op 11 .eff, .op 14 .eff, .op 15 .eff, .op 16 .pure, .op 17 .eff, .op 18 .eff, .op 19 .pure])))))))) (.seq .none (.seq .none .none))))))
theorem T12_ok : chkFn prog Tryz.f12 T12 = true := by kernel_rfl
def B12 (t_p0 : Value) (w : World) (K : Value → World → Prop) : Prop :=
  pvv prog (oEq .eql 24 (.tmp 6) (.const (.pointer none)) t_p0 (.pointer none)) w fun t_0 w =>
  cd t_0 (
    K (.slice none 0 0) w) <|
  dr w fun w =>
  pv prog (oNil t_p0) w fun t_1 w =>
  pvv prog (Instr.fieldAt 49 t_1 1) w fun t_2 w =>
  pv prog (oNil t_p0) w fun t_3 w =>
  pvv prog (Instr.fieldAt 49 t_3 0) w fun t_4 w =>
  pvv prog (Instr.fieldAt 46 t_4 0) w fun t_5 w =>
  bindS (vN (Instr.loadAt 3 t_2)) fun m_7 => ldv prog (Instr.loadAt 3 t_2) w fun t_6 w =>
  bindS (vN (Instr.loadAt 3 t_5)) fun m_9 => ldv prog (Instr.loadAt 3 t_5) w fun t_8 w =>
  Calls prog 24 #[t_6] w (Ret fun t_10 w => stay prog none m_9 t_8 w <| 
  Calls prog 24 #[t_8] w (Ret fun t_11 w => stay prog none m_7 t_6 w <| 
  efv prog (Instr.buildSlice 56 2 #[(0, t_10), (1, t_11)]) w fun t_12 w => stay prog none m_9 t_8 w <| stay prog none m_7 t_6 w <| 
  pvv prog (Instr.build 58 #[(0, (.string ⟨#[35]⟩)), (1, t_12)]) w fun t_13 w =>
  efv prog (Instr.buildSlice 40 1 #[(0, t_13)]) w fun t_14 w => stay prog none m_9 t_8 w <| stay prog none m_7 t_6 w <| 
  pv prog (oNil t_p0) w fun t_15 w =>
  pvv prog (Instr.fieldAt 49 t_15 2) w fun t_16 w =>
  ldv prog (Instr.loadAt 47 t_16) w fun t_17 w =>
  efv prog (Instr.range 47 t_17) w fun t_18 w =>
  lp (fun σ w again_20 => pop σ fun out_19 σ => fin σ <|
    efv prog (Instr.next t_18 false 0) w fun t_21 w =>
    pvv prog (Instr.extract t_21 0) w fun t_22 w =>
    cd t_22 (
      efv prog (Instr.entry t_18) w fun t_23 w =>
      pvv prog (Instr.extract t_23 0) w fun t_24 w =>
      pvv prog (Instr.extract t_23 1) w fun t_25 w =>
      efv prog (Instr.alloc 26 true (.tuple #[])) w fun s_26 w =>
      efu prog (Instr.storeAt 26 s_26 t_25) w fun u_27 w =>
      dr w fun w =>
      pvv prog (Instr.fieldAt 26 s_26 1) w fun t_28 w =>
      pvv prog (Instr.fieldAt 23 t_28 0) w fun t_29 w =>
      pvv prog (Instr.fieldAt 26 s_26 1) w fun t_30 w =>
      pvv prog (Instr.fieldAt 23 t_30 1) w fun t_31 w =>
      pvv prog (Instr.fieldAt 26 s_26 2) w fun t_32 w =>
      pvv prog (Instr.fieldAt 26 s_26 3) w fun t_33 w =>
      bindS (vN (Instr.loadAt 9 t_29)) fun m_35 => ldv prog (Instr.loadAt 9 t_29) w fun t_34 w =>
      bindS (vN (Instr.loadAt 9 t_31)) fun m_37 => ldv prog (Instr.loadAt 9 t_31) w fun t_36 w =>
      bindS (vN (Instr.loadAt 3 t_32)) fun m_39 => ldv prog (Instr.loadAt 3 t_32) w fun t_38 w =>
      bindS (vN (Instr.loadAt 3 t_33)) fun m_41 => ldv prog (Instr.loadAt 3 t_33) w fun t_40 w =>
      Calls prog 24 #[t_24] w (Ret fun t_42 w => stay prog none m_41 t_40 w <| stay prog none m_39 t_38 w <| stay prog none m_37 t_36 w <| stay prog none m_35 t_34 w <| 
      Calls prog 24 #[t_38] w (Ret fun t_43 w => stay prog none m_41 t_40 w <| stay prog none m_37 t_36 w <| stay prog none m_35 t_34 w <| 
      Calls prog 24 #[t_40] w (Ret fun t_44 w => stay prog none m_39 t_38 w <| stay prog none m_37 t_36 w <| stay prog none m_35 t_34 w <| 
      efv prog (Instr.buildSlice 56 4 #[(0, t_34), (1, t_36), (2, t_43), (3, t_44)]) w fun t_45 w => stay prog none m_41 t_40 w <| stay prog none m_39 t_38 w <| 
      pvv prog (Instr.build 58 #[(0, t_42), (1, t_45)]) w fun t_46 w =>
      efv prog (Instr.buildSlice 40 1 #[(0, t_46)]) w fun t_47 w => stay prog none m_41 t_40 w <| stay prog none m_39 t_38 w <| stay prog none m_37 t_36 w <| stay prog none m_35 t_34 w <| 
      ef prog (oBi .append #[40, 40] 40 #[false, false] #[out_19, t_47]) w fun t_48 w => stay prog none m_41 t_40 w <| stay prog none m_39 t_38 w <| stay prog none m_37 t_36 w <| stay prog none m_35 t_34 w <| 
      again_20 [t_48] w)))) <|
    Calls prog 25 #[out_19, (.func (.func 26) #[] #[])] w (Ret fun t_55 w =>
    K out_19 w)) [t_14] w))
theorem B12_eq (t_p0 : Value) (w : World) (K : Value → World → Prop) : denFn prog Tryz.f12 T12 [t_p0] w K = B12 t_p0 w K := by kernel_rfl
theorem c12 {t_p0 : Value} {w : World} {K : Value → World → Prop} (h : B12 t_p0 w K) : Calls prog 12 #[t_p0] w (Ret K) :=
  denFn_calls Tryz.func12 T12_ok (Eq.mpr (B12_eq t_p0 w K) h)

-- 79 slices.breakPatternsOrdered[int]
def T79 : Ann := (.seq .none (.seq .none (.seq (.seq .none (.seq .none (.seq .none (.block (.loop 36893488147351995904 [9] (.seq (.seq .none (.seq .none .none)) (.seq (.block (.seq .none (.meet 138538465100800 [10] (.seq .none (.seq .none .none)) (.draw [.op 0 .pure, .op 1 .pure, .op 2 .pure, .op 3 .pure, .op 4 .pure, .op 5 .pure, .op 6 .pure, .op 7 .pure, .op 8 .pure, .op 9 .pure, .op 10 .pure, .op 12 .pure, .op 13 .pure, .op 14 .pure, .op 11 .load, .op 15 .load, .op 16 .pure, .op 17 .eff, .op 18 .pure, .op 19 .eff])))) .none))))))) .none)))
theorem T79_ok : chkFn prog Tryz.f79 T79 = true := by kernel_rfl
def B79 (data_p0 a_p1 b_p2 : Value) (w : World) (K : Value → World → Prop) : Prop :=
  pvv prog (binOp .sub 3 b_p2 a_p1) w fun t_0 w =>
  pvv prog (binOp .geq 3 t_0 (.int .i64 8)) w fun t_1 w =>
  cd t_1 (
    pvv prog (convert 3 104 t_0) w fun t_2 w =>
    efv prog (Instr.alloc 104 true (.tuple #[])) w fun random_3 w =>
    efu prog (Instr.storeAt 104 random_3 t_2) w fun u_4 w =>
    Calls prog 70 #[t_0] w (Ret fun t_5 w =>
    pvv prog (binOp .quo 3 t_0 (.int .i64 4)) w fun t_6 w =>
    pvv prog (binOp .mul 3 t_6 (.int .i64 2)) w fun t_7 w =>
    pvv prog (binOp .add 3 a_p1 t_7) w fun t_8 w =>
    pvv prog (binOp .sub 3 t_8 (.int .i64 1)) w fun t_9 w =>
    lp (fun σ w again_11 => pop σ fun idx_10 σ => fin σ <|
      pvv prog (binOp .quo 3 t_0 (.int .i64 4)) w fun t_12 w =>
      pvv prog (binOp .mul 3 t_12 (.int .i64 2)) w fun t_13 w =>
      pvv prog (binOp .add 3 a_p1 t_13) w fun t_14 w =>
      pvv prog (binOp .add 3 t_14 (.int .i64 1)) w fun t_15 w =>
      pvv prog (binOp .leq 3 idx_10 t_15) w fun t_16 w =>
      cd t_16 (
        Calls prog 71 #[random_3] w (Ret fun t_17 w =>
        pvv prog (binOp .sub 74 t_5 (.int .u64 1)) w fun t_18 w =>
        pvv prog (binOp .and 74 t_17 t_18) w fun t_19 w =>
        pvv prog (convert 74 3 t_19) w fun t_20 w =>
        jn (fun σ w => pop σ fun other_21 σ => fin σ <|
          dr w fun w =>
          pvv prog (binOp .add 3 a_p1 other_21) w fun t_22 w =>
          pvv prog (binOp .add 3 a_p1 other_21) w fun t_23 w =>
          pvv prog (Instr.indexAt 31 data_p0 t_23) w fun t_24 w =>
          pvv prog (Instr.indexAt 31 data_p0 idx_10) w fun t_25 w =>
          bindS (vN (Instr.loadAt 3 t_24)) fun m_27 => ldv prog (Instr.loadAt 3 t_24) w fun t_26 w =>
          bindS (vN (Instr.loadAt 3 t_25)) fun m_29 => ldv prog (Instr.loadAt 3 t_25) w fun t_28 w =>
          pvv prog (Instr.indexAt 31 data_p0 idx_10) w fun t_30 w =>
          efu prog (Instr.storeAt 3 t_30 t_26) w fun u_31 w =>
          pvv prog (Instr.indexAt 31 data_p0 t_22) w fun t_32 w =>
          efu prog (Instr.storeAt 3 t_32 t_28) w fun u_33 w =>
          pvv prog (binOp .add 3 idx_10 (.int .i64 1)) w fun t_34 w =>
          again_11 [t_34] w) fun k_37 =>
        pvv prog (binOp .geq 3 t_20 t_0) w fun t_38 w =>
        cd t_38 (
          pvv prog (binOp .sub 3 t_20 t_0) w fun t_39 w =>
          k_37 [t_39] w) <|
        k_37 [t_20] w)) <|
      K (.tuple #[]) w) [t_9] w)) <|
  K (.tuple #[]) w
theorem B79_eq (data_p0 a_p1 b_p2 : Value) (w : World) (K : Value → World → Prop) : denFn prog Tryz.f79 T79 [data_p0, a_p1, b_p2] w K = B79 data_p0 a_p1 b_p2 w K := by kernel_rfl
theorem c79 {data_p0 a_p1 b_p2 : Value} {w : World} {K : Value → World → Prop} (h : B79 data_p0 a_p1 b_p2 w K) : Calls prog 79 #[data_p0, a_p1, b_p2] w (Ret K) :=
  denFn_calls Tryz.func79 T79_ok (Eq.mpr (B79_eq data_p0 a_p1 b_p2 w K) h)

-- 52 slices.heapSortCmpFunc[holdfast/api.Row]
def T52 : Ann := (.seq .none (.seq .none (.seq .none (.seq (.seq .none (.block (.loop 1072695296 [11] (.seq (.seq .none (.seq .none .none)) (.seq (.block .none) .none))))) (.seq .none (.block (.loop 1152921500311883776 [12] (.seq (.seq .none (.seq .none .none)) (.seq (.block (.seq (.draw [.op 0 .pure, .op 1 .pure, .op 2 .pure, .op 3 .pure, .op 4 .pure, .op 5 .pure, .op 6 .pure, .op 7 .pure, .op 8 .pure, .op 9 .pure, .op 10 .pure, .op 12 .pure, .op 13 .pure, .op 14 .pure, .op 11 .load, .op 15 .load, .op 16 .pure, .op 17 .eff, .op 18 .pure, .op 19 .eff]) .none)) .none)))))))))
theorem T52_ok : chkFn prog Tryz.f52 T52 = true := by kernel_rfl
def B52 (data_p0 a_p1 b_p2 cmp_p3 : Value) (w : World) (K : Value → World → Prop) : Prop :=
  pvv prog (binOp .sub 3 b_p2 a_p1) w fun t_0 w =>
  pvv prog (binOp .sub 3 t_0 (.int .i64 1)) w fun t_1 w =>
  pvv prog (binOp .quo 3 t_1 (.int .i64 2)) w fun t_2 w =>
  lp (fun σ w again_4 => pop σ fun i_3 σ => fin σ <|
    pvv prog (binOp .geq 3 i_3 (.int .i64 0)) w fun t_5 w =>
    cd t_5 (
      Calls prog 69 #[data_p0, i_3, t_0, a_p1, cmp_p3] w (Ret fun t_6 w =>
      pvv prog (binOp .sub 3 i_3 (.int .i64 1)) w fun t_7 w =>
      again_4 [t_7] w)) <|
    pvv prog (binOp .sub 3 t_0 (.int .i64 1)) w fun t_8 w =>
    lp (fun σ w again_10 => pop σ fun i_9 σ => fin σ <|
      pvv prog (binOp .geq 3 i_9 (.int .i64 0)) w fun t_11 w =>
      cd t_11 (
        dr w fun w =>
        pvv prog (binOp .add 3 a_p1 i_9) w fun t_12 w =>
        pvv prog (binOp .add 3 a_p1 i_9) w fun t_13 w =>
        pvv prog (Instr.indexAt 40 data_p0 t_13) w fun t_14 w =>
        pvv prog (Instr.indexAt 40 data_p0 a_p1) w fun t_15 w =>
        bindS (vN (Instr.loadAt 58 t_14)) fun m_17 => ldv prog (Instr.loadAt 58 t_14) w fun t_16 w =>
        bindS (vN (Instr.loadAt 58 t_15)) fun m_19 => ldv prog (Instr.loadAt 58 t_15) w fun t_18 w =>
        pvv prog (Instr.indexAt 40 data_p0 a_p1) w fun t_20 w =>
        efu prog (Instr.storeAt 58 t_20 t_16) w fun u_21 w =>
        pvv prog (Instr.indexAt 40 data_p0 t_12) w fun t_22 w =>
        efu prog (Instr.storeAt 58 t_22 t_18) w fun u_23 w =>
        Calls prog 69 #[data_p0, (.int .i64 0), i_9, a_p1, cmp_p3] w (Ret fun t_24 w =>
        pvv prog (binOp .sub 3 i_9 (.int .i64 1)) w fun t_25 w =>
        again_10 [t_25] w)) <|
      K (.tuple #[]) w) [t_8] w) [t_2] w
theorem B52_eq (data_p0 a_p1 b_p2 cmp_p3 : Value) (w : World) (K : Value → World → Prop) : denFn prog Tryz.f52 T52 [data_p0, a_p1, b_p2, cmp_p3] w K = B52 data_p0 a_p1 b_p2 cmp_p3 w K := by kernel_rfl
theorem c52 {data_p0 a_p1 b_p2 cmp_p3 : Value} {w : World} {K : Value → World → Prop} (h : B52 data_p0 a_p1 b_p2 cmp_p3 w K) : Calls prog 52 #[data_p0, a_p1, b_p2, cmp_p3] w (Ret K) :=
  denFn_calls Tryz.func52 T52_ok (Eq.mpr (B52_eq data_p0 a_p1 b_p2 cmp_p3 w K) h)

-- 54 slices.choosePivotCmpFunc[holdfast/api.Row]
def T54 : Ann := (.seq .none (.seq .none (.seq .none (.seq .none (.seq .none (.seq .none (.meet 36028788429058048 [13] (.seq .none (.seq (.meet 562915593711616 [12, 13, 14] (.seq .none (.seq (.seq .none (.seq .none .none)) .none)) .none) .none)) (.seq .none (.block (.seq .none (.seq (.seq .none .none) (.seq .none (.seq (.seq .none .none) (.seq .none .none))))))))))))))
theorem T54_ok : chkFn prog Tryz.f54 T54 = true := by kernel_rfl
def B54 (data_p0 a_p1 b_p2 cmp_p3 : Value) (w : World) (K : Value → World → Prop) : Prop :=
  pvv prog (binOp .sub 3 b_p2 a_p1) w fun t_0 w =>
  efv prog (Instr.alloc 3 true (.tuple #[])) w fun swaps_1 w =>
  pvv prog (binOp .quo 3 t_0 (.int .i64 4)) w fun t_2 w =>
  pvv prog (binOp .mul 3 t_2 (.int .i64 1)) w fun t_3 w =>
  pvv prog (binOp .add 3 a_p1 t_3) w fun t_4 w =>
  pvv prog (binOp .quo 3 t_0 (.int .i64 4)) w fun t_5 w =>
  pvv prog (binOp .mul 3 t_5 (.int .i64 2)) w fun t_6 w =>
  pvv prog (binOp .add 3 a_p1 t_6) w fun t_7 w =>
  pvv prog (binOp .quo 3 t_0 (.int .i64 4)) w fun t_8 w =>
  pvv prog (binOp .mul 3 t_8 (.int .i64 3)) w fun t_9 w =>
  pvv prog (binOp .add 3 a_p1 t_9) w fun t_10 w =>
  jn (fun σ w => pop σ fun j_11 σ => fin σ <|
    ldv prog (Instr.loadAt 3 swaps_1) w fun t_12 w =>
    pvv prog (oEq .eql 3 (.tmp 55) (.const (.int .i64 0)) t_12 (.int .i64 0)) w fun t_13 w =>
    cd t_13 (
      K (.tuple #[j_11, (.int .i64 1)]) w) <|
    pvv prog (oEq .eql 3 (.tmp 55) (.const (.int .i64 12)) t_12 (.int .i64 12)) w fun t_14 w =>
    cd t_14 (
      K (.tuple #[j_11, (.int .i64 2)]) w) <|
    K (.tuple #[j_11, (.int .i64 0)]) w) fun k_15 =>
  pvv prog (binOp .geq 3 t_0 (.int .i64 8)) w fun t_16 w =>
  cd t_16 (
    jn (fun σ w => pop σ fun i_17 σ => pop σ fun j_18 σ => pop σ fun k_19 σ => fin σ <|
      Calls prog 73 #[data_p0, i_17, j_18, k_19, swaps_1, cmp_p3] w (Ret fun t_20 w =>
      k_15 [t_20] w)) fun k_21 =>
    pvv prog (binOp .geq 3 t_0 (.int .i64 50)) w fun t_22 w =>
    cd t_22 (
      Calls prog 72 #[data_p0, t_4, swaps_1, cmp_p3] w (Ret fun t_23 w =>
      Calls prog 72 #[data_p0, t_7, swaps_1, cmp_p3] w (Ret fun t_24 w =>
      Calls prog 72 #[data_p0, t_10, swaps_1, cmp_p3] w (Ret fun t_25 w =>
      k_21 [t_23, t_24, t_25] w)))) <|
    k_21 [t_4, t_7, t_10] w) <|
  k_15 [t_7] w
theorem B54_eq (data_p0 a_p1 b_p2 cmp_p3 : Value) (w : World) (K : Value → World → Prop) : denFn prog Tryz.f54 T54 [data_p0, a_p1, b_p2, cmp_p3] w K = B54 data_p0 a_p1 b_p2 cmp_p3 w K := by kernel_rfl
theorem c54 {data_p0 a_p1 b_p2 cmp_p3 : Value} {w : World} {K : Value → World → Prop} (h : B54 data_p0 a_p1 b_p2 cmp_p3 w K) : Calls prog 54 #[data_p0, a_p1, b_p2, cmp_p3] w (Ret K) :=
  denFn_calls Tryz.func54 T54_ok (Eq.mpr (B54_eq data_p0 a_p1 b_p2 cmp_p3 w K) h)

-- 29 strings.Trim
def T29 : Ann := (.seq .none (.seq (.seq .none (.seq (.seq .none .none) .none)) (.seq (.seq .none (.seq (.seq (.draw [.op 0 .pure, .op 1 .pure, .op 2 .pure, .op 4 .pure, .op 5 .pure, .op 3 .eff, .op 6 .eff, .op 7 .pure]) .none) .none)) (.seq (.seq .none (.seq .none (.seq (.seq .none .none) .none))) (.seq .none .none)))))
theorem T29_ok : chkFn prog Tryz.f29 T29 = true := by kernel_rfl
def B29 (s_p0 cutset_p1 : Value) (w : World) (K : Value → World → Prop) : Prop :=
  pvv prog (oEq .eql 9 (.tmp 7) (.const (.string ⟨#[]⟩)) s_p0 (.string ⟨#[]⟩)) w fun t_0 w =>
  gate (some (t_0, false)) (fun K => K cutset_p1 w) w fun t_1 w =>
  gate (some (t_0, false)) (fun K => pvv prog (oEq .eql 9 (.tmp 10) (.const (.string ⟨#[]⟩)) t_1 (.string ⟨#[]⟩)) w K) w fun t_2 w =>
  pv prog (oPick t_0 (.bool true) t_2) w fun t_3 w =>
  cd t_3 (
    K s_p0 w) <|
  pv prog (oBi .len #[9] 3 #[false] #[cutset_p1]) w fun t_4 w =>
  pvv prog (oEq .eql 3 (.tmp 15) (.const (.int .i64 1)) t_4 (.int .i64 1)) w fun t_5 w =>
  gate (some (t_5, true)) (fun K => K cutset_p1 w) w fun t_6 w =>
  gate (some (t_5, true)) (fun K => pvv prog (Instr.index 9 t_6 (.int .i64 0)) w K) w fun t_7 w =>
  gate (some (t_5, true)) (fun K => pvv prog (binOp .lss 5 t_7 (.int .u8 128)) w K) w fun t_8 w =>
  pv prog (oPick t_5 t_8 (.bool false)) w fun t_9 w =>
  cd t_9 (
    dr w fun w =>
    pvv prog (Instr.index 9 cutset_p1 (.int .i64 0)) w fun t_10 w =>
    pvv prog (Instr.index 9 cutset_p1 (.int .i64 0)) w fun t_11 w =>
    Calls prog 40 #[s_p0, t_10] w (Ret fun t_12 w =>
    Calls prog 39 #[t_12, t_11] w (Ret fun t_13 w =>
    K t_13 w))) <|
  Calls prog 41 #[cutset_p1] w (Ret fun t_16 w =>
  pvv prog (Instr.extract t_16 0) w fun t_17 w =>
  pvv prog (Instr.extract t_16 1) w fun t_18 w =>
  efv prog (Instr.alloc 78 true (.tuple #[])) w fun as_19 w =>
  efu prog (Instr.storeAt 78 as_19 t_17) w fun u_20 w =>
  cd t_18 (
    Calls prog 43 #[s_p0, as_19] w (Ret fun t_21 w =>
    Calls prog 42 #[t_21, as_19] w (Ret fun t_22 w =>
    K t_22 w))) <|
  Calls prog 45 #[s_p0, cutset_p1] w (Ret fun t_23 w =>
  Calls prog 44 #[t_23, cutset_p1] w (Ret fun t_24 w =>
  K t_24 w)))
theorem B29_eq (s_p0 cutset_p1 : Value) (w : World) (K : Value → World → Prop) : denFn prog Tryz.f29 T29 [s_p0, cutset_p1] w K = B29 s_p0 cutset_p1 w K := by kernel_rfl
theorem c29 {s_p0 cutset_p1 : Value} {w : World} {K : Value → World → Prop} (h : B29 s_p0 cutset_p1 w K) : Calls prog 29 #[s_p0, cutset_p1] w (Ret K) :=
  denFn_calls Tryz.func29 T29_ok (Eq.mpr (B29_eq s_p0 cutset_p1 w K) h)

-- 59 math/bits.Len32
def T59 : Ann := (.seq .none (.meet 125 [0, 2] (.seq .none (.seq (.seq .none .none) .none)) (.meet 8069 [0, 2] (.seq .none (.seq (.seq .none .none) .none)) (.seq .none .none))))
theorem T59_ok : chkFn prog Tryz.f59 T59 = true := by kernel_rfl
def B59 (x_p0 : Value) (w : World) (K : Value → World → Prop) : Prop :=
  jn (fun σ w => pop σ fun x_0 σ => pop σ fun n_1 σ => fin σ <|
    jn (fun σ w => pop σ fun x_2 σ => pop σ fun n_3 σ => fin σ <|
      pvv prog (convert 95 5 x_2) w fun t_4 w =>
      pvv prog (Instr.index 9 (.string ⟨#[0, 1, 2, 2, 3, 3, 3, 3, 4, 4, 4, 4, 4, 4, 4, 4, 5, 5, 5, 5, 5, 5, 5, 5, 5, 5, 5, 5, 5, 5, 5, 5, 6, 6, 6, 6, 6, 6, 6, 6, 6, 6, 6, 6, 6, 6, 6, 6, 6, 6, 6, 6, 6, 6, 6, 6, 6, 6, 6, 6, 6, 6, 6, 6, 7, 7, 7, 7, 7, 7, 7, 7, 7, 7, 7, 7, 7, 7, 7, 7, 7, 7, 7, 7, 7, 7, 7, 7, 7, 7, 7, 7, 7, 7, 7, 7, 7, 7, 7, 7, 7, 7, 7, 7, 7, 7, 7, 7, 7, 7, 7, 7, 7, 7, 7, 7, 7, 7, 7, 7, 7, 7, 7, 7, 7, 7, 7, 7, 8, 8, 8, 8, 8, 8, 8, 8, 8, 8, 8, 8, 8, 8, 8, 8, 8, 8, 8, 8, 8, 8, 8, 8, 8, 8, 8, 8, 8, 8, 8, 8, 8, 8, 8, 8, 8, 8, 8, 8, 8, 8, 8, 8, 8, 8, 8, 8, 8, 8, 8, 8, 8, 8, 8, 8, 8, 8, 8, 8, 8, 8, 8, 8, 8, 8, 8, 8, 8, 8, 8, 8, 8, 8, 8, 8, 8, 8, 8, 8, 8, 8, 8, 8, 8, 8, 8, 8, 8, 8, 8, 8, 8, 8, 8, 8, 8, 8, 8, 8, 8, 8, 8, 8, 8, 8, 8, 8, 8, 8, 8, 8, 8, 8, 8, 8, 8, 8, 8, 8, 8, 8, 8, 8, 8, 8, 8, 8]⟩) t_4) w fun t_5 w =>
      pvv prog (convert 5 3 t_5) w fun t_6 w =>
      pvv prog (binOp .add 3 n_3 t_6) w fun t_7 w =>
      K t_7 w) fun k_8 =>
    pvv prog (binOp .geq 95 x_0 (.int .u32 256)) w fun t_9 w =>
    cd t_9 (
      pvv prog (binOp .shr 95 x_0 (.int .u64 8)) w fun t_10 w =>
      pvv prog (binOp .add 3 n_1 (.int .i64 8)) w fun t_11 w =>
      k_8 [t_10, t_11] w) <|
    k_8 [x_0, n_1] w) fun k_12 =>
  pvv prog (binOp .geq 95 x_p0 (.int .u32 65536)) w fun t_13 w =>
  cd t_13 (
    pvv prog (binOp .shr 95 x_p0 (.int .u64 16)) w fun t_14 w =>
    k_12 [t_14, (.int .i64 16)] w) <|
  k_12 [x_p0, (.int .i64 0)] w
theorem B59_eq (x_p0 : Value) (w : World) (K : Value → World → Prop) : denFn prog Tryz.f59 T59 [x_p0] w K = B59 x_p0 w K := by kernel_rfl
theorem c59 {x_p0 : Value} {w : World} {K : Value → World → Prop} (h : B59 x_p0 w K) : Calls prog 59 #[x_p0] w (Ret K) :=
  denFn_calls Tryz.func59 T59_ok (Eq.mpr (B59_eq x_p0 w K) h)

-- 87 internal/strconv.small
def T87 : Ann := (.seq .none (.seq (.seq .none (.seq (.seq .none .none) .none)) (.seq .none .none)))
theorem T87_ok : chkFn prog Tryz.f87 T87 = true := by kernel_rfl
def B87 (i_p0 : Value) (w : World) (K : Value → World → Prop) : Prop :=
  pvv prog (binOp .lss 3 i_p0 (.int .i64 10)) w fun t_0 w =>
  cd t_0 (
    pvv prog (binOp .add 3 i_p0 (.int .i64 1)) w fun t_1 w =>
    pvv prog (Instr.sliceAt 9 (.string ⟨#[48, 49, 50, 51, 52, 53, 54, 55, 56, 57, 97, 98, 99, 100, 101, 102, 103, 104, 105, 106, 107, 108, 109, 110, 111, 112, 113, 114, 115, 116, 117, 118, 119, 120, 121, 122]⟩) (some i_p0) (some t_1) none) w fun t_2 w =>
    K t_2 w) <|
  pvv prog (binOp .mul 3 i_p0 (.int .i64 2)) w fun t_3 w =>
  pvv prog (binOp .mul 3 i_p0 (.int .i64 2)) w fun t_4 w =>
  pvv prog (binOp .add 3 t_4 (.int .i64 2)) w fun t_5 w =>
  pvv prog (Instr.sliceAt 9 (.string ⟨#[48, 48, 48, 49, 48, 50, 48, 51, 48, 52, 48, 53, 48, 54, 48, 55, 48, 56, 48, 57, 49, 48, 49, 49, 49, 50, 49, 51, 49, 52, 49, 53, 49, 54, 49, 55, 49, 56, 49, 57, 50, 48, 50, 49, 50, 50, 50, 51, 50, 52, 50, 53, 50, 54, 50, 55, 50, 56, 50, 57, 51, 48, 51, 49, 51, 50, 51, 51, 51, 52, 51, 53, 51, 54, 51, 55, 51, 56, 51, 57, 52, 48, 52, 49, 52, 50, 52, 51, 52, 52, 52, 53, 52, 54, 52, 55, 52, 56, 52, 57, 53, 48, 53, 49, 53, 50, 53, 51, 53, 52, 53, 53, 53, 54, 53, 55, 53, 56, 53, 57, 54, 48, 54, 49, 54, 50, 54, 51, 54, 52, 54, 53, 54, 54, 54, 55, 54, 56, 54, 57, 55, 48, 55, 49, 55, 50, 55, 51, 55, 52, 55, 53, 55, 54, 55, 55, 55, 56, 55, 57, 56, 48, 56, 49, 56, 50, 56, 51, 56, 52, 56, 53, 56, 54, 56, 55, 56, 56, 56, 57, 57, 48, 57, 49, 57, 50, 57, 51, 57, 52, 57, 53, 57, 54, 57, 55, 57, 56, 57, 57]⟩) (some t_3) (some t_5) none) w fun t_6 w =>
  K t_6 w
theorem B87_eq (i_p0 : Value) (w : World) (K : Value → World → Prop) : denFn prog Tryz.f87 T87 [i_p0] w K = B87 i_p0 w K := by kernel_rfl
theorem c87 {i_p0 : Value} {w : World} {K : Value → World → Prop} (h : B87 i_p0 w K) : Calls prog 87 #[i_p0] w (Ret K) :=
  denFn_calls Tryz.func87 T87_ok (Eq.mpr (B87_eq i_p0 w K) h)

-- 13 (*holdfast/session.Table).Fork
def T13 : Ann := (.seq .none (.seq (.seq .none (.seq (.seq .none .none) .none)) (.seq (.draw [.op 0 .pure, .op 1 .pure, .op 2 .pure, .op 4 .pure, .op 5 .pure, .op 6 .pure, .op 8 .pure, .op 9 .pure, .op 10 .pure, .op 3 .load, .op 7 .load, .op 11 .load, .op 12 .eff, .op 13 .pure, .op 14 .eff, .op 15 .pure]) .none)))
theorem T13_ok : chkFn prog Tryz.f13 T13 = true := by kernel_rfl
def B13 (t_p0 : Value) (w : World) (K : Value → World → Prop) : Prop :=
  pvv prog (oEq .eql 24 (.tmp 3) (.const (.pointer none)) t_p0 (.pointer none)) w fun t_0 w =>
  cd t_0 (
    K (.pointer none) w) <|
  dr w fun w =>
  pv prog (oNil t_p0) w fun t_1 w =>
  pvv prog (Instr.fieldAt 49 t_1 0) w fun t_2 w =>
  pv prog (oNil t_p0) w fun t_3 w =>
  pvv prog (Instr.fieldAt 49 t_3 1) w fun t_4 w =>
  pv prog (oNil t_p0) w fun t_5 w =>
  pvv prog (Instr.fieldAt 49 t_5 2) w fun t_6 w =>
  bindS (vN (Instr.loadAt 46 t_2)) fun m_8 => ldv prog (Instr.loadAt 46 t_2) w fun t_7 w =>
  bindS (vN (Instr.loadAt 3 t_4)) fun m_10 => ldv prog (Instr.loadAt 3 t_4) w fun t_9 w =>
  bindS (vN (Instr.loadAt 47 t_6)) fun m_12 => ldv prog (Instr.loadAt 47 t_6) w fun t_11 w =>
  Calls prog 28 #[t_11] w (Ret fun t_13 w => stay prog none m_10 t_9 w <| stay prog none m_8 t_7 w <| 
  pvv prog (Instr.build 49 #[(0, t_7), (1, t_9), (2, t_13)]) w fun t_14 w =>
  efv prog (Instr.box 49 t_14) w fun t_15 w => stay prog none m_12 t_11 w <| stay prog none m_10 t_9 w <| stay prog none m_8 t_7 w <| 
  K t_15 w)
theorem B13_eq (t_p0 : Value) (w : World) (K : Value → World → Prop) : denFn prog Tryz.f13 T13 [t_p0] w K = B13 t_p0 w K := by kernel_rfl
theorem c13 {t_p0 : Value} {w : World} {K : Value → World → Prop} (h : B13 t_p0 w K) : Calls prog 13 #[t_p0] w (Ret K) :=
  denFn_calls Tryz.func13 T13_ok (Eq.mpr (B13_eq t_p0 w K) h)

-- 40 strings.trimRightByte
def T40 : Ann := (.seq .none (.seq (.block (.loop 4194273 [0] (.seq (.seq .none (.seq .none .none)) (.block .none)))) (.seq .none .none)))
theorem T40_ok : chkFn prog Tryz.f40 T40 = true := by kernel_rfl
def B40 (s_p0 c_p1 : Value) (w : World) (K : Value → World → Prop) : Prop :=
  lp (fun σ w again_1 => pop σ fun s_0 σ => fin σ <|
    pv prog (oBi .len #[9] 3 #[false] #[s_0]) w fun t_2 w =>
    pvv prog (binOp .gtr 3 t_2 (.int .i64 0)) w fun t_3 w =>
    gate (some (t_3, true)) (fun K => K s_0 w) w fun t_4 w =>
    gate (some (t_3, true)) (fun K => K s_0 w) w fun t_5 w =>
    gate (some (t_3, true)) (fun K => pv prog (oBi .len #[9] 3 #[false] #[t_5]) w K) w fun t_6 w =>
    gate (some (t_3, true)) (fun K => pvv prog (binOp .sub 3 t_6 (.int .i64 1)) w K) w fun t_7 w =>
    gate (some (t_3, true)) (fun K => pvv prog (Instr.index 9 t_4 t_7) w K) w fun t_8 w =>
    gate (some (t_3, true)) (fun K => K c_p1 w) w fun t_9 w =>
    gate (some (t_3, true)) (fun K => pvv prog (oEq .eql 5 (.tmp 13) (.tmp 14) t_8 t_9) w K) w fun t_10 w =>
    pv prog (oPick t_3 t_10 (.bool false)) w fun t_11 w =>
    cd t_11 (
      pv prog (oBi .len #[9] 3 #[false] #[s_0]) w fun t_12 w =>
      pvv prog (binOp .sub 3 t_12 (.int .i64 1)) w fun t_13 w =>
      pvv prog (Instr.sliceAt 9 s_0 none (some t_13) none) w fun t_14 w =>
      again_1 [t_14] w) <|
    K s_0 w) [s_p0] w
theorem B40_eq (s_p0 c_p1 : Value) (w : World) (K : Value → World → Prop) : denFn prog Tryz.f40 T40 [s_p0, c_p1] w K = B40 s_p0 c_p1 w K := by kernel_rfl
theorem c40 {s_p0 c_p1 : Value} {w : World} {K : Value → World → Prop} (h : B40 s_p0 c_p1 w K) : Calls prog 40 #[s_p0, c_p1] w (Ret K) :=
  denFn_calls Tryz.func40 T40_ok (Eq.mpr (B40_eq s_p0 c_p1 w K) h)

-- 7 (*holdfast/session.Table).Sweep
def T7 : Ann := (.seq .none (.seq (.seq .none (.seq .none (.seq (.seq .none .none) .none))) (.seq .none (.seq .none .none))))
theorem T7_ok : chkFn prog Tryz.f7 T7 = true := by kernel_rfl
def B7 (t_p0 now_p1 : Value) (w : World) (K : Value → World → Prop) : Prop :=
  efv prog (Instr.box 3 now_p1) w fun now_0 w =>
  ldv prog (Instr.loadAt 3 now_0) w fun t_1 w =>
  Calls prog 15 #[t_p0, t_1] w (Ret fun t_2 w =>
  pvv prog (oEq .neq 27 (.tmp 10) (.const (.int .i64 0)) t_2 (.int .i64 0)) w fun t_3 w =>
  cd t_3 (
    K (.tuple #[(.slice none 0 0), t_2]) w) <|
  ldv prog (Instr.loadAt 3 now_0) w fun t_4 w =>
  pv prog (oNil t_p0) w fun t_5 w =>
  pvv prog (Instr.fieldAt 49 t_5 0) w fun t_6 w =>
  pvv prog (Instr.fieldAt 46 t_6 0) w fun t_7 w =>
  efu prog (Instr.storeAt 3 t_7 t_4) w fun u_8 w =>
  pvv prog (Instr.makeFunc (.func 20) #[] #[now_0]) w fun t_9 w =>
  Calls prog 19 #[t_p0, t_9] w (Ret fun t_10 w =>
  Calls prog 18 #[t_p0, t_10] w (Ret fun t_11 w =>
  K (.tuple #[t_11, (.int .i64 0)]) w)))
theorem B7_eq (t_p0 now_p1 : Value) (w : World) (K : Value → World → Prop) : denFn prog Tryz.f7 T7 [t_p0, now_p1] w K = B7 t_p0 now_p1 w K := by kernel_rfl
theorem c7 {t_p0 now_p1 : Value} {w : World} {K : Value → World → Prop} (h : B7 t_p0 now_p1 w K) : Calls prog 7 #[t_p0, now_p1] w (Ret K) :=
  denFn_calls Tryz.func7 T7_ok (Eq.mpr (B7_eq t_p0 now_p1 w K) h)

-- 62 unicode/utf8.DecodeRuneInString
def T62 : Ann := (.seq .none (.seq (.seq .none (.seq (.seq .none .none) .none)) .none))
theorem T62_ok : chkFn prog Tryz.f62 T62 = true := by kernel_rfl
def B62 (s_p0 : Value) (w : World) (K : Value → World → Prop) : Prop :=
  pvv prog (oEq .neq 9 (.tmp 4) (.const (.string ⟨#[]⟩)) s_p0 (.string ⟨#[]⟩)) w fun t_0 w =>
  gate (some (t_0, true)) (fun K => K s_p0 w) w fun t_1 w =>
  gate (some (t_0, true)) (fun K => pvv prog (Instr.index 9 t_1 (.int .i64 0)) w K) w fun t_2 w =>
  gate (some (t_0, true)) (fun K => pvv prog (binOp .lss 5 t_2 (.int .u8 128)) w K) w fun t_3 w =>
  pv prog (oPick t_0 t_3 (.bool false)) w fun t_4 w =>
  cd t_4 (
    pvv prog (Instr.index 9 s_p0 (.int .i64 0)) w fun t_5 w =>
    pvv prog (convert 5 21 t_5) w fun t_6 w =>
    K (.tuple #[t_6, (.int .i64 1)]) w) <|
  Calls prog 74 #[s_p0] w (Ret fun t_7 w =>
  pvv prog (Instr.extract t_7 0) w fun t_8 w =>
  pvv prog (Instr.extract t_7 1) w fun t_9 w =>
  K (.tuple #[t_8, t_9]) w)
theorem B62_eq (s_p0 : Value) (w : World) (K : Value → World → Prop) : denFn prog Tryz.f62 T62 [s_p0] w K = B62 s_p0 w K := by kernel_rfl
theorem c62 {s_p0 : Value} {w : World} {K : Value → World → Prop} (h : B62 s_p0 w K) : Calls prog 62 #[s_p0] w (Ret K) :=
  denFn_calls Tryz.func62 T62_ok (Eq.mpr (B62_eq s_p0 w K) h)

-- 42 strings.trimLeftASCII
def T42 : Ann := (.seq .none (.meet 32737 [0] (.block (.loop 32737 [0] (.seq (.seq .none (.seq .none .none)) (.block (.seq (.seq .none (.seq .none .none)) .none))))) (.seq .none .none)))
theorem T42_ok : chkFn prog Tryz.f42 T42 = true := by kernel_rfl
def B42 (s_p0 as_p1 : Value) (w : World) (K : Value → World → Prop) : Prop :=
  jn (fun σ w => pop σ fun s_0 σ => fin σ <|
    K s_0 w) fun k_1 =>
  lp (fun σ w again_3 => pop σ fun s_2 σ => fin σ <|
    pv prog (oBi .len #[9] 3 #[false] #[s_2]) w fun t_4 w =>
    pvv prog (binOp .gtr 3 t_4 (.int .i64 0)) w fun t_5 w =>
    cd t_5 (
      pvv prog (Instr.index 9 s_2 (.int .i64 0)) w fun t_6 w =>
      Calls prog 61 #[as_p1, t_6] w (Ret fun t_7 w =>
      pvv prog (Op.unary .not t_7) w fun t_8 w =>
      cd t_8 (
        k_1 [s_2] w) <|
      pvv prog (Instr.sliceAt 9 s_2 (some (.int .i64 1)) none none) w fun t_9 w =>
      again_3 [t_9] w)) <|
    k_1 [s_2] w) [s_p0] w
theorem B42_eq (s_p0 as_p1 : Value) (w : World) (K : Value → World → Prop) : denFn prog Tryz.f42 T42 [s_p0, as_p1] w K = B42 s_p0 as_p1 w K := by kernel_rfl
theorem c42 {s_p0 as_p1 : Value} {w : World} {K : Value → World → Prop} (h : B42 s_p0 as_p1 w K) : Calls prog 42 #[s_p0, as_p1] w (Ret K) :=
  denFn_calls Tryz.func42 T42_ok (Eq.mpr (B42_eq s_p0 as_p1 w K) h)

-- 30 (holdfast/session.clock).look
def T30 : Ann := (.seq .none (.seq (.block (.seq .none (.seq (.seq .none .none) (.seq .none (.seq (.seq .none .none) .none))))) (.seq .none .none)))
theorem T30_ok : chkFn prog Tryz.f30 T30 = true := by kernel_rfl
def B30 (c_p0 now_p1 : Value) (w : World) (K : Value → World → Prop) : Prop :=
  efv prog (Instr.box 46 c_p0) w fun c_0 w =>
  pvv prog (binOp .lss 3 now_p1 (.int .i64 0)) w fun t_1 w =>
  gate (some (t_1, false)) (fun K => K now_p1 w) w fun t_2 w =>
  gate (some (t_1, false)) (fun K => pvv prog (binOp .gtr 3 t_2 (.int .i64 1099511627776)) w K) w fun t_3 w =>
  pv prog (oPick t_1 (.bool true) t_3) w fun t_4 w =>
  cd t_4 (
    K (.int .i64 2) w) <|
  pvv prog (Instr.fieldAt 46 c_0 0) w fun t_5 w =>
  ldv prog (Instr.loadAt 3 t_5) w fun t_6 w =>
  pvv prog (binOp .lss 3 now_p1 t_6) w fun t_7 w =>
  cd t_7 (
    K (.int .i64 9) w) <|
  K (.int .i64 0) w
theorem B30_eq (c_p0 now_p1 : Value) (w : World) (K : Value → World → Prop) : denFn prog Tryz.f30 T30 [c_p0, now_p1] w K = B30 c_p0 now_p1 w K := by kernel_rfl
theorem c30 {c_p0 now_p1 : Value} {w : World} {K : Value → World → Prop} (h : B30 c_p0 now_p1 w K) : Calls prog 30 #[c_p0, now_p1] w (Ret K) :=
  denFn_calls Tryz.func30 T30_ok (Eq.mpr (B30_eq c_p0 now_p1 w K) h)

-- 83 cmp.Less[int]
def T83 : Ann := (.seq .none (.seq .none .none))
theorem T83_ok : chkFn prog Tryz.f83 T83 = true := by kernel_rfl
def B83 (x_p0 y_p1 : Value) (w : World) (K : Value → World → Prop) : Prop :=
  Calls prog 99 #[x_p0] w (Ret fun t_0 w =>
  gate (some (t_0, true)) (fun K => K y_p1 w) w fun t_1 w =>
  gate (some (t_0, true)) (fun K => Calls prog 99 #[t_1] w (Ret K)) w fun t_2 w =>
  gate (some (t_0, true)) (fun K => pvv prog (Op.unary .not t_2) w K) w fun t_3 w =>
  pv prog (oPick t_0 t_3 (.bool false)) w fun t_4 w =>
  gate (some (t_4, false)) (fun K => K x_p0 w) w fun t_5 w =>
  gate (some (t_4, false)) (fun K => K y_p1 w) w fun t_6 w =>
  gate (some (t_4, false)) (fun K => pvv prog (binOp .lss 3 t_5 t_6) w K) w fun t_7 w =>
  pv prog (oPick t_4 (.bool true) t_7) w fun t_8 w =>
  K t_8 w)
theorem B83_eq (x_p0 y_p1 : Value) (w : World) (K : Value → World → Prop) : denFn prog Tryz.f83 T83 [x_p0, y_p1] w K = B83 x_p0 y_p1 w K := by kernel_rfl
theorem c83 {x_p0 y_p1 : Value} {w : World} {K : Value → World → Prop} (h : B83 x_p0 y_p1 w K) : Calls prog 83 #[x_p0, y_p1] w (Ret K) :=
  denFn_calls Tryz.func83 T83_ok (Eq.mpr (B83_eq x_p0 y_p1 w K) h)

-- 20 (*holdfast/session.Table).Sweep$1
def T20 : Ann := (.seq .none (.seq (.draw [.op 0 .load, .op 1 .load, .op 2 .eff, .op 3 .pure, .op 4 .pure]) .none))
theorem T20_ok : chkFn prog Tryz.f20 T20 = true := by kernel_rfl
def B20 (s_p0 x_p1 : Value) (w : World) (K : Value → World → Prop) : Prop :=
  efv prog (Instr.box 26 s_p0) w fun s_0 w =>
  dr w fun w =>
  bindS (vN (Instr.loadAt 3 x_p1)) fun m_2 => ldv prog (Instr.loadAt 3 x_p1) w fun t_1 w =>
  bindS (vN (Instr.loadAt 26 s_0)) fun m_4 => ldv prog (Instr.loadAt 26 s_0) w fun t_3 w =>
  Calls prog 17 #[t_3] w (Ret fun t_5 w => stay prog none m_2 t_1 w <| 
  pvv prog (binOp .geq 3 t_1 t_5) w fun t_6 w =>
  K t_6 w)
theorem B20_eq (s_p0 x_p1 : Value) (w : World) (K : Value → World → Prop) : denFn prog Tryz.f20 T20 [s_p0, x_p1] w K = B20 s_p0 x_p1 w K := by kernel_rfl
theorem c20 {s_p0 x_p1 : Value} {w : World} {K : Value → World → Prop} (h : B20 s_p0 x_p1 w K) : Calls prog 20 #[s_p0, x_p1] w (Ret K) :=
  denFn_calls Tryz.func20 T20_ok (Eq.mpr (B20_eq s_p0 x_p1 w K) h)

-- 26 (*holdfast/session.Table).Rows$1
def T26 : Ann := (.seq .none (.seq .none .none))
theorem T26_ok : chkFn prog Tryz.f26 T26 = true := by kernel_rfl
def B26 (a_p0 b_p1 : Value) (w : World) (K : Value → World → Prop) : Prop :=
  efv prog (Instr.box 58 a_p0) w fun a_0 w =>
  efv prog (Instr.box 58 b_p1) w fun b_1 w =>
  pvv prog (Instr.fieldAt 58 a_0 0) w fun t_2 w =>
  ldv prog (Instr.loadAt 9 t_2) w fun t_3 w =>
  pvv prog (Instr.fieldAt 58 b_1 0) w fun t_4 w =>
  ldv prog (Instr.loadAt 9 t_4) w fun t_5 w =>
  Calls prog 27 #[t_3, t_5] w (Ret fun t_6 w =>
  K t_6 w)
theorem B26_eq (a_p0 b_p1 : Value) (w : World) (K : Value → World → Prop) : denFn prog Tryz.f26 T26 [a_p0, b_p1] w K = B26 a_p0 b_p1 w K := by kernel_rfl
theorem c26 {a_p0 b_p1 : Value} {w : World} {K : Value → World → Prop} (h : B26 a_p0 b_p1 w K) : Calls prog 26 #[a_p0, b_p1] w (Ret K) :=
  denFn_calls Tryz.func26 T26_ok (Eq.mpr (B26_eq a_p0 b_p1 w K) h)

-- 67 internal/stringslite.TrimPrefix
def T67 : Ann := (.seq .none (.seq (.seq .none (.seq (.seq .none .none) .none)) (.seq .none .none)))
theorem T67_ok : chkFn prog Tryz.f67 T67 = true := by kernel_rfl
def B67 (s_p0 prefix_p1 : Value) (w : World) (K : Value → World → Prop) : Prop :=
  Calls prog 86 #[s_p0, prefix_p1] w (Ret fun t_0 w =>
  cd t_0 (
    pv prog (oBi .len #[9] 3 #[false] #[prefix_p1]) w fun t_1 w =>
    pvv prog (Instr.sliceAt 9 s_p0 (some t_1) none none) w fun t_2 w =>
    K t_2 w) <|
  K s_p0 w)
theorem B67_eq (s_p0 prefix_p1 : Value) (w : World) (K : Value → World → Prop) : denFn prog Tryz.f67 T67 [s_p0, prefix_p1] w K = B67 s_p0 prefix_p1 w K := by kernel_rfl
theorem c67 {s_p0 prefix_p1 : Value} {w : World} {K : Value → World → Prop} (h : B67 s_p0 prefix_p1 w K) : Calls prog 67 #[s_p0, prefix_p1] w (Ret K) :=
  denFn_calls Tryz.func67 T67_ok (Eq.mpr (B67_eq s_p0 prefix_p1 w K) h)

-- 102 internal/strconv.isPowerOfTwo
def T102 : Ann := (.seq .none (.seq .none .none))
theorem T102_ok : chkFn prog Tryz.f102 T102 = true := by kernel_rfl
def B102 (x_p0 : Value) (w : World) (K : Value → World → Prop) : Prop :=
  pvv prog (binOp .sub 3 x_p0 (.int .i64 1)) w fun t_0 w =>
  pvv prog (binOp .and 3 x_p0 t_0) w fun t_1 w =>
  pvv prog (oEq .eql 3 (.tmp 6) (.const (.int .i64 0)) t_1 (.int .i64 0)) w fun t_2 w =>
  K t_2 w
theorem B102_eq (x_p0 : Value) (w : World) (K : Value → World → Prop) : denFn prog Tryz.f102 T102 [x_p0] w K = B102 x_p0 w K := by kernel_rfl
theorem c102 {x_p0 : Value} {w : World} {K : Value → World → Prop} (h : B102 x_p0 w K) : Calls prog 102 #[x_p0] w (Ret K) :=
  denFn_calls Tryz.func102 T102_ok (Eq.mpr (B102_eq x_p0 w K) h)

-- 61 (*strings.asciiSet).contains
def T61 : Ann := (.seq .none (.seq .none .none))
theorem T61_ok : chkFn prog Tryz.f61 T61 = true := by kernel_rfl
def B61 (as_p0 c_p1 : Value) (w : World) (K : Value → World → Prop) : Prop :=
  pv prog (oNil as_p0) w fun t_0 w =>
  pvv prog (Instr.indexAt 78 t_0 c_p1) w fun t_1 w =>
  ldv prog (Instr.loadAt 4 t_1) w fun t_2 w =>
  K t_2 w
theorem B61_eq (as_p0 c_p1 : Value) (w : World) (K : Value → World → Prop) : denFn prog Tryz.f61 T61 [as_p0, c_p1] w K = B61 as_p0 c_p1 w K := by kernel_rfl
theorem c61 {as_p0 c_p1 : Value} {w : World} {K : Value → World → Prop} (h : B61 as_p0 c_p1 w K) : Calls prog 61 #[as_p0, c_p1] w (Ret K) :=
  denFn_calls Tryz.func61 T61_ok (Eq.mpr (B61_eq as_p0 c_p1 w K) h)

-- 33 maps.Keys[map[int]holdfast/api.Session,int,holdfast/api.Session]
def T33 : Ann := (.seq .none (.seq .none .none))
theorem T33_ok : chkFn prog Tryz.f33 T33 = true := by kernel_rfl
def B33 (m_p0 : Value) (w : World) (K : Value → World → Prop) : Prop :=
  efv prog (Instr.box 47 m_p0) w fun m_0 w =>
  pvv prog (Instr.makeFunc (.func 48) #[] #[m_0]) w fun t_1 w =>
  K t_1 w
theorem B33_eq (m_p0 : Value) (w : World) (K : Value → World → Prop) : denFn prog Tryz.f33 T33 [m_p0] w K = B33 m_p0 w K := by kernel_rfl
theorem c33 {m_p0 : Value} {w : World} {K : Value → World → Prop} (h : B33 m_p0 w K) : Calls prog 33 #[m_p0] w (Ret K) :=
  denFn_calls Tryz.func33 T33_ok (Eq.mpr (B33_eq m_p0 w K) h)

-- 104 internal/stringslite.IndexByte
def T104 : Ann := (.seq .none (.seq .none .none))
theorem T104_ok : chkFn prog Tryz.f104 T104 = true := by kernel_rfl
def B104 (s_p0 c_p1 : Value) (w : World) (K : Value → World → Prop) : Prop :=
  ef prog (oCall (.func (.func 108) #[] #[]) #[s_p0, c_p1]) w fun t_0 w =>
  K t_0 w
theorem B104_eq (s_p0 c_p1 : Value) (w : World) (K : Value → World → Prop) : denFn prog Tryz.f104 T104 [s_p0, c_p1] w K = B104 s_p0 c_p1 w K := by kernel_rfl
theorem c104 {s_p0 c_p1 : Value} {w : World} {K : Value → World → Prop} (h : B104 s_p0 c_p1 w K) : Calls prog 104 #[s_p0, c_p1] w (Ret K) :=
  denFn_calls Tryz.func104 T104_ok (Eq.mpr (B104_eq s_p0 c_p1 w K) h)

-- 101 internal/strconv.bool2[int]
def T101 : Ann := (.seq .none (.seq (.seq .none (.seq (.seq .none .none) .none)) (.seq .none .none)))
theorem T101_ok : chkFn prog Tryz.f101 T101 = true := by kernel_rfl
def B101 (b_p0 : Value) (w : World) (K : Value → World → Prop) : Prop :=
  cd b_p0 (
    K (.int .i64 1) w) <|
  K (.int .i64 0) w
theorem B101_eq (b_p0 : Value) (w : World) (K : Value → World → Prop) : denFn prog Tryz.f101 T101 [b_p0] w K = B101 b_p0 w K := by kernel_rfl
theorem c101 {b_p0 : Value} {w : World} {K : Value → World → Prop} (h : B101 b_p0 w K) : Calls prog 101 #[b_p0] w (Ret K) :=
  denFn_calls Tryz.func101 T101_ok (Eq.mpr (B101_eq b_p0 w K) h)


end Go.Proofs.YticbbnjhiiimcaaGreatDoor
