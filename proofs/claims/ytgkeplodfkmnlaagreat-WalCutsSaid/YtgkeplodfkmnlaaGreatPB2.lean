import Derived.Test.YtgkeplodfkmnlaaGreatPI
set_option linter.all false
set_option maxRecDepth 100000
namespace Go.Proofs.YtgkeplodfkmnlaaGreat
open Go Hold
-- 23 (*holdfast/wal.Log).Commit
def T23 : Ann := (.seq .none (.seq (.block (.seq .none (.seq (.seq .none .none) (.seq .none (.seq (.seq .none .none) (.seq .none (.seq (.seq .none .none) (.seq .none (.seq (.seq .none .none) .none))))))))) (.seq .none (.seq (.seq .none (.block (.loop 18014389919547536 [33] (.seq .none (.seq (.seq .none .none) (.seq (.block (.seq .none (.seq (.seq .none (.seq (.seq .none .none) .none)) .none))) .none)))))) (.seq (.seq (.draw [.op 0 .pure, .op 1 .pure, .op 3 .load, .op 4 .pure, .op 5 .pure, .op 6 .load, .op 7 .load, .op 8 .pure, .op 9 .pure, .op 10 .load, .op 11 .pure, .op 2 .eff, .op 12 .pure]) (.seq (.seq .none .none) .none)) (.seq .none (.seq .none (.seq .none (.seq (.seq .none (.block (.loop 19806738397111180741092314112 [78] (.seq .none (.seq (.seq .none .none) (.seq (.block (.seq .none .none)) .none)))))) (.seq .none (.seq .none (.seq (.seq .none (.block (.loop 174224571214483385976394345438753283137536 [109] (.seq .none (.seq (.seq .none .none) (.seq (.block (.seq .none (.seq (.draw [.op 5 .pure, .op 6 .pure, .op 7 .pure, .op 8 .pure, .op 9 .pure, .op 10 .pure, .op 0 .load, .op 1 .pure, .op 2 .pure, .op 3 .pure, .op 4 .load, .op 11 .load, .op 12 .eff]) .none))) .none)))))) (.seq (.draw [.op 4 .pure, .op 5 .pure, .op 0 .load, .op 1 .pure, .op 2 .pure, .op 3 .load, .op 6 .eff, .op 7 .pure, .op 8 .pure, .op 9 .pure, .op 10 .eff]) (.seq .none (.seq .none (.seq .none .none))))))))))))))))
theorem T23_ok : chkFn prog Tryz.f23 T23 = true := by kernel_rfl
def B23 (l_p0 pages_p1 : Value) (w : World) (K : Value → World → Prop) : Prop :=
  efv prog (Instr.box 23 l_p0) w fun l_0 w =>
  ldv prog (Instr.loadAt 23 l_0) w fun t_1 w =>
  pvv prog (oEq .eql 23 (.tmp 16) (.const (.pointer none)) t_1 (.pointer none)) w fun t_2 w =>
  cd t_2 (
    K (.int .i64 1) w) <|
  pv prog (oBi .len #[49] 3 #[false] #[pages_p1]) w fun t_3 w =>
  pvv prog (oEq .eql 3 (.tmp 20) (.const (.int .i64 0)) t_3 (.int .i64 0)) w fun t_4 w =>
  cd t_4 (
    K (.int .i64 0) w) <|
  pv prog (oBi .len #[49] 3 #[false] #[pages_p1]) w fun t_5 w =>
  pvv prog (binOp .gtr 3 t_5 (.int .i64 100)) w fun t_6 w =>
  cd t_6 (
    K (.int .i64 6) w) <|
  pvv prog (Instr.makeFunc (.func 53) #[] #[l_0]) w fun t_7 w =>
  Calls prog 52 #[pages_p1, t_7] w (Ret fun t_8 w =>
  cd t_8 (
    K (.int .i64 2) w) <|
  efv prog (Instr.makeMap 99 none) w fun t_9 w =>
  pv prog (oBi .len #[49] 3 #[false] #[pages_p1]) w fun t_10 w =>
  lp (fun σ w again_12 => pop σ fun t_11 σ => fin σ <|
    pvv prog (binOp .lss 3 t_11 t_10) w fun t_13 w =>
    cd t_13 (
      pvv prog (Instr.indexAt 49 pages_p1 t_11) w fun t_14 w =>
      ldv prog (Instr.loadAt 65 t_14) w fun t_15 w =>
      efv prog (Instr.alloc 65 true (.tuple #[])) w fun p_16 w =>
      efu prog (Instr.storeAt 65 p_16 t_15) w fun u_17 w =>
      pvv prog (Instr.fieldAt 65 p_16 0) w fun t_18 w =>
      ldv prog (Instr.loadAt 3 t_18) w fun t_19 w =>
      ldv prog (Instr.lookup 99 t_9 t_19 false) w fun t_20 w =>
      pvv prog (oEq .neq 60 (.tmp 40) (.const (.slice none 0 0)) t_20 (.slice none 0 0)) w fun t_21 w =>
      gate (some (t_21, false)) (fun K => pvv prog (Instr.fieldAt 65 p_16 1) w K) w fun t_22 w =>
      gate (some (t_21, false)) (fun K => ldv prog (Instr.loadAt 60 t_22) w K) w fun t_23 w =>
      gate (some (t_21, false)) (fun K => pv prog (oBi .len #[60] 3 #[false] #[t_23]) w K) w fun t_24 w =>
      gate (some (t_21, false)) (fun K => pvv prog (oEq .neq 3 (.tmp 45) (.const (.int .i64 256)) t_24 (.int .i64 256)) w K) w fun t_25 w =>
      pv prog (oPick t_21 (.bool true) t_25) w fun t_26 w =>
      cd t_26 (
        K (.int .i64 3) w) <|
      pvv prog (Instr.fieldAt 65 p_16 0) w fun t_27 w =>
      ldv prog (Instr.loadAt 3 t_27) w fun t_28 w =>
      pvv prog (Instr.fieldAt 65 p_16 1) w fun t_29 w =>
      ldv prog (Instr.loadAt 60 t_29) w fun t_30 w =>
      efu prog (Instr.mapUpdate 99 t_9 t_28 t_30) w fun u_31 w =>
      pvv prog (binOp .add 3 t_11 (.int .i64 1)) w fun t_32 w =>
      again_12 [t_32] w) <|
    dr w fun w =>
    pv prog (oBi .len #[49] 3 #[false] #[pages_p1]) w fun t_33 w =>
    bindS (vN (Instr.loadAt 23 l_0)) fun m_35 => ldv prog (Instr.loadAt 23 l_0) w fun t_34 w =>
    pv prog (oNil t_34) w fun t_36 w =>
    pvv prog (Instr.fieldAt 70 t_36 1) w fun t_37 w =>
    bindS (vN (Instr.loadAt 3 t_37)) fun m_39 => ldv prog (Instr.loadAt 3 t_37) w fun t_38 w =>
    bindS (vN (Instr.loadAt 23 l_0)) fun m_41 => ldv prog (Instr.loadAt 23 l_0) w fun t_40 w =>
    pv prog (oNil t_40) w fun t_42 w =>
    pvv prog (Instr.fieldAt 70 t_42 3) w fun t_43 w =>
    bindS (vN (Instr.loadAt 3 t_43)) fun m_45 => ldv prog (Instr.loadAt 3 t_43) w fun t_44 w =>
    pvv prog (binOp .sub 3 t_38 t_44) w fun t_46 w =>
    Calls prog 24 #[t_33] w (Ret fun t_47 w => stay prog none m_45 t_44 w <| stay prog none m_41 t_40 w <| stay prog none m_39 t_38 w <| stay prog none m_35 t_34 w <| 
    pvv prog (binOp .gtr 3 t_47 t_46) w fun t_48 w =>
    cd t_48 (
      K (.int .i64 7) w) <|
    efv prog (Instr.makeSlice 60 (.int .i64 256) (.int .i64 256)) w fun t_49 w =>
    pvv prog (Instr.sliceAt 60 t_49 none (some (.int .i64 2)) none) w fun t_50 w =>
    pv prog (oBi .len #[49] 3 #[false] #[pages_p1]) w fun t_51 w =>
    Calls prog 54 #[t_50, t_51] w (Ret fun t_52 w =>
    Calls prog 55 #[t_9] w (Ret fun t_53 w =>
    Calls prog 37 #[t_53] w (Ret fun t_54 w =>
    pv prog (oBi .len #[29] 3 #[false] #[t_54]) w fun t_55 w =>
    lp (fun σ w again_57 => pop σ fun t_56 σ => fin σ <|
      pvv prog (binOp .lss 3 t_56 t_55) w fun t_58 w =>
      cd t_58 (
        pvv prog (Instr.indexAt 29 t_54 t_56) w fun t_59 w =>
        ldv prog (Instr.loadAt 3 t_59) w fun t_60 w =>
        pvv prog (binOp .mul 3 (.int .i64 2) t_56) w fun t_61 w =>
        pvv prog (binOp .add 3 (.int .i64 2) t_61) w fun t_62 w =>
        pvv prog (binOp .mul 3 (.int .i64 2) t_56) w fun t_63 w =>
        pvv prog (binOp .add 3 (.int .i64 4) t_63) w fun t_64 w =>
        pvv prog (Instr.sliceAt 60 t_49 (some t_62) (some t_64) none) w fun t_65 w =>
        Calls prog 54 #[t_65, t_60] w (Ret fun t_66 w =>
        pvv prog (binOp .add 3 t_56 (.int .i64 1)) w fun t_67 w =>
        again_57 [t_67] w)) <|
      ldv prog (Instr.loadAt 23 l_0) w fun t_68 w =>
      pv prog (oNil t_68) w fun t_69 w =>
      pvv prog (Instr.fieldAt 70 t_69 3) w fun t_70 w =>
      ldv prog (Instr.loadAt 3 t_70) w fun t_71 w =>
      pvv prog (binOp .add 3 t_71 (.int .i64 1)) w fun t_72 w =>
      ldv prog (Instr.loadAt 23 l_0) w fun t_73 w =>
      pv prog (oNil t_73) w fun t_74 w =>
      pvv prog (Instr.fieldAt 70 t_74 0) w fun t_75 w =>
      pvv prog (Instr.fieldAt 67 t_75 0) w fun t_76 w =>
      ldv prog (Instr.loadAt 42 t_76) w fun t_77 w =>
      Calls prog 35 #[t_77, t_72, t_49] w (Ret fun t_78 w =>
      pv prog (oBi .len #[29] 3 #[false] #[t_54]) w fun t_79 w =>
      lp (fun σ w again_81 => pop σ fun t_80 σ => fin σ <|
        pvv prog (binOp .lss 3 t_80 t_79) w fun t_82 w =>
        cd t_82 (
          pvv prog (Instr.indexAt 29 t_54 t_80) w fun t_83 w =>
          ldv prog (Instr.loadAt 3 t_83) w fun t_84 w =>
          dr w fun w =>
          pvv prog (binOp .add 3 t_72 (.int .i64 1)) w fun t_85 w =>
          pvv prog (binOp .add 3 t_85 t_80) w fun t_86 w =>
          bindS (vN (Instr.loadAt 23 l_0)) fun m_88 => ldv prog (Instr.loadAt 23 l_0) w fun t_87 w =>
          pv prog (oNil t_87) w fun t_89 w =>
          pvv prog (Instr.fieldAt 70 t_89 0) w fun t_90 w =>
          pvv prog (Instr.fieldAt 67 t_90 0) w fun t_91 w =>
          bindS (vN (Instr.loadAt 42 t_91)) fun m_93 => ldv prog (Instr.loadAt 42 t_91) w fun t_92 w =>
          bindS (vN (Instr.lookup 99 t_9 t_84 false)) fun m_95 => ldv prog (Instr.lookup 99 t_9 t_84 false) w fun t_94 w =>
          Calls prog 35 #[t_92, t_86, t_94] w (Ret fun t_96 w => stay prog none m_88 t_87 w <| 
          ldv prog (Instr.loadAt 23 l_0) w fun t_97 w =>
          pv prog (oNil t_97) w fun t_98 w =>
          pvv prog (Instr.fieldAt 70 t_98 4) w fun t_99 w =>
          ldv prog (Instr.loadAt 68 t_99) w fun t_100 w =>
          pvv prog (binOp .add 3 t_72 (.int .i64 1)) w fun t_101 w =>
          pvv prog (binOp .add 3 t_101 t_80) w fun t_102 w =>
          efu prog (Instr.mapUpdate 68 t_100 t_84 t_102) w fun u_103 w =>
          pvv prog (binOp .add 3 t_80 (.int .i64 1)) w fun t_104 w =>
          again_81 [t_104] w)) <|
        dr w fun w =>
        pv prog (oBi .len #[49] 3 #[false] #[pages_p1]) w fun t_106 w =>
        bindS (vN (Instr.loadAt 23 l_0)) fun m_108 => ldv prog (Instr.loadAt 23 l_0) w fun t_107 w =>
        pv prog (oNil t_107) w fun t_109 w =>
        pvv prog (Instr.fieldAt 70 t_109 3) w fun t_110 w =>
        bindS (vN (Instr.loadAt 3 t_110)) fun m_112 => ldv prog (Instr.loadAt 3 t_110) w fun t_111 w =>
        Calls prog 24 #[t_106] w (Ret fun t_113 w => stay prog none m_112 t_111 w <| stay prog none m_108 t_107 w <| 
        pvv prog (binOp .add 3 t_111 t_113) w fun t_114 w =>
        pv prog (oNil t_107) w fun t_115 w =>
        pvv prog (Instr.fieldAt 70 t_115 3) w fun t_116 w =>
        efu prog (Instr.storeAt 3 t_116 t_114) w fun u_117 w =>
        ldv prog (Instr.loadAt 23 l_0) w fun t_118 w =>
        pv prog (oNil t_118) w fun t_119 w =>
        pvv prog (Instr.fieldAt 70 t_119 2) w fun t_120 w =>
        ldv prog (Instr.loadAt 3 t_120) w fun t_121 w =>
        pvv prog (binOp .add 3 t_121 (.int .i64 1)) w fun t_122 w =>
        pv prog (oNil t_118) w fun t_123 w =>
        pvv prog (Instr.fieldAt 70 t_123 2) w fun t_124 w =>
        efu prog (Instr.storeAt 3 t_124 t_122) w fun u_125 w =>
        ldv prog (Instr.loadAt 23 l_0) w fun t_126 w =>
        Calls prog 36 #[t_126] w (Ret fun t_127 w =>
        K (.int .i64 0) w))) [(.int .i64 0)] w)) [(.int .i64 0)] w))))) [(.int .i64 0)] w)
theorem B23_eq (l_p0 pages_p1 : Value) (w : World) (K : Value → World → Prop) : denFn prog Tryz.f23 T23 [l_p0, pages_p1] w K = B23 l_p0 pages_p1 w K := by kernel_rfl
theorem c23 {l_p0 pages_p1 : Value} {w : World} {K : Value → World → Prop} (h : B23 l_p0 pages_p1 w K) : Calls prog 23 #[l_p0, pages_p1] w (Ret K) :=
  denFn_calls Tryz.func23 T23_ok (Eq.mpr (B23_eq l_p0 pages_p1 w K) h)

-- 93 slices.pdqsortOrdered[int]
def T93 : Ann := (.seq .none (.seq .none (.block (.loop 21778071482940061661655974875633165532942 [1, 2, 3, 8, 9] (.block (.seq .none (.seq (.seq .none (.seq (.seq .none .none) .none)) (.seq (.seq .none (.seq (.seq .none .none) .none)) (.meet 4380866641928 [3] (.seq .none (.seq (.seq .none .none) .none)) (.seq .none (.meet 2305280059260278784 [11, 12] (.seq .none (.seq (.seq .none (.seq .none .none)) .none)) (.meet 9442427122730076733440 [] (.seq .none (.seq (.seq .none (.seq .none .none)) .none)) (.seq (.seq (.draw [.op 0 .pure, .op 1 .pure, .op 2 .pure, .op 3 .pure, .op 4 .pure, .op 5 .pure, .op 6 .pure, .op 8 .pure, .op 9 .pure, .op 10 .pure, .op 7 .load, .op 11 .load, .op 12 .eff, .op 13 .pure, .op 14 .pure]) (.seq (.seq .none (.seq .none .none)) .none)) (.seq .none (.seq .none (.seq .none (.seq .none (.seq .none (.seq (.seq .none (.seq .none .none)) (.seq .none (.seq .none .none)))))))))))))))))))))
theorem T93_ok : chkFn prog Tryz.f93 T93 = true := by kernel_rfl
def B93 (data_p0 a_p1 b_p2 limit_p3 : Value) (w : World) (K : Value → World → Prop) : Prop :=
  lp (fun σ w again_5 => pop σ fun a_0 σ => pop σ fun b_1 σ => pop σ fun limit_2 σ => pop σ fun wasBalanced_3 σ => pop σ fun wasPartitioned_4 σ => fin σ <|
    pvv prog (binOp .sub 3 b_1 a_0) w fun t_6 w =>
    pvv prog (binOp .leq 3 t_6 (.int .i64 12)) w fun t_7 w =>
    cd t_7 (
      Calls prog 98 #[data_p0, a_0, b_1] w (Ret fun t_8 w =>
      K (.tuple #[]) w)) <|
    pvv prog (oEq .eql 3 (.tmp 28) (.const (.int .i64 0)) limit_2 (.int .i64 0)) w fun t_9 w =>
    cd t_9 (
      Calls prog 99 #[data_p0, a_0, b_1] w (Ret fun t_10 w =>
      K (.tuple #[]) w)) <|
    jn (fun σ w => pop σ fun limit_11 σ => fin σ <|
      Calls prog 101 #[data_p0, a_0, b_1] w (Ret fun t_12 w =>
      pvv prog (Instr.extract t_12 0) w fun t_13 w =>
      pvv prog (Instr.extract t_12 1) w fun t_14 w =>
      jn (fun σ w => pop σ fun pivot_15 σ => pop σ fun hint_16 σ => fin σ <|
        jn (fun σ w => fin σ <|
          dr w fun w =>
          pvv prog (binOp .gtr 3 a_0 (.int .i64 0)) w fun t_17 w =>
          gate (some (t_17, true)) (fun K => K data_p0 w) w fun t_18 w =>
          gate (some (t_17, true)) (fun K => K a_0 w) w fun t_19 w =>
          gate (some (t_17, true)) (fun K => pvv prog (binOp .sub 3 t_19 (.int .i64 1)) w K) w fun t_20 w =>
          gate (some (t_17, true)) (fun K => pvv prog (Instr.indexAt 29 t_18 t_20) w K) w fun t_21 w =>
          gate (some (t_17, true)) (fun K => K data_p0 w) w fun t_22 w =>
          gate (some (t_17, true)) (fun K => K pivot_15 w) w fun t_23 w =>
          gate (some (t_17, true)) (fun K => pvv prog (Instr.indexAt 29 t_22 t_23) w K) w fun t_24 w =>
          bindS (vN (Instr.loadAt 3 t_21)) fun m_26 => gate (some (t_17, true)) (fun K => ldv prog (Instr.loadAt 3 t_21) w K) w fun t_25 w =>
          bindS (vN (Instr.loadAt 3 t_24)) fun m_28 => gate (some (t_17, true)) (fun K => ldv prog (Instr.loadAt 3 t_24) w K) w fun t_27 w =>
          gate (some (t_17, true)) (fun K => Calls prog 104 #[t_25, t_27] w (Ret fun s_46 w => K s_46 w)) w fun t_29 w =>
          gate (some (t_17, true)) (fun K => pvv prog (Op.unary .not t_29) w K) w fun t_30 w =>
          pv prog (oPick t_17 t_30 (.bool false)) w fun t_31 w =>
          cd t_31 (
            Calls prog 105 #[data_p0, a_0, b_1, pivot_15] w (Ret fun t_32 w =>
            again_5 [t_32, b_1, limit_11, wasBalanced_3, wasPartitioned_4] w)) <|
          Calls prog 106 #[data_p0, a_0, b_1, pivot_15] w (Ret fun t_33 w =>
          pvv prog (Instr.extract t_33 0) w fun t_34 w =>
          pvv prog (Instr.extract t_33 1) w fun t_35 w =>
          pvv prog (binOp .sub 3 t_34 a_0) w fun t_36 w =>
          pvv prog (binOp .sub 3 b_1 t_34) w fun t_37 w =>
          pvv prog (binOp .quo 3 t_6 (.int .i64 8)) w fun t_38 w =>
          pvv prog (binOp .lss 3 t_36 t_37) w fun t_39 w =>
          cd t_39 (
            pvv prog (binOp .geq 3 t_36 t_38) w fun t_40 w =>
            Calls prog 93 #[data_p0, a_0, t_34, limit_11] w (Ret fun t_41 w =>
            pvv prog (binOp .add 3 t_34 (.int .i64 1)) w fun t_42 w =>
            again_5 [t_42, b_1, limit_11, t_40, t_35] w)) <|
          pvv prog (binOp .geq 3 t_37 t_38) w fun t_43 w =>
          pvv prog (binOp .add 3 t_34 (.int .i64 1)) w fun t_44 w =>
          Calls prog 93 #[data_p0, t_44, b_1, limit_11] w (Ret fun t_45 w =>
          again_5 [a_0, t_34, limit_11, t_43, t_35] w))) fun k_47 =>
        gate (some (wasBalanced_3, true)) (fun K => K wasPartitioned_4 w) w fun t_48 w =>
        pv prog (oPick wasBalanced_3 t_48 (.bool false)) w fun t_49 w =>
        gate (some (t_49, true)) (fun K => K hint_16 w) w fun t_50 w =>
        gate (some (t_49, true)) (fun K => pvv prog (oEq .eql 141 (.tmp 66) (.const (.int .i64 1)) t_50 (.int .i64 1)) w K) w fun t_51 w =>
        pv prog (oPick t_49 t_51 (.bool false)) w fun t_52 w =>
        cd t_52 (
          Calls prog 103 #[data_p0, a_0, b_1] w (Ret fun t_53 w =>
          cd t_53 (
            K (.tuple #[]) w) <|
          k_47 [] w)) <|
        k_47 [] w) fun k_54 =>
      pvv prog (oEq .eql 141 (.tmp 49) (.const (.int .i64 2)) t_14 (.int .i64 2)) w fun t_55 w =>
      cd t_55 (
        Calls prog 102 #[data_p0, a_0, b_1] w (Ret fun t_56 w =>
        pvv prog (binOp .sub 3 b_1 (.int .i64 1)) w fun t_57 w =>
        pvv prog (binOp .sub 3 t_13 a_0) w fun t_58 w =>
        pvv prog (binOp .sub 3 t_57 t_58) w fun t_59 w =>
        k_54 [t_59, (.int .i64 1)] w)) <|
      k_54 [t_13, t_14] w)) fun k_60 =>
    pvv prog (Op.unary .not wasBalanced_3) w fun t_61 w =>
    cd t_61 (
      Calls prog 100 #[data_p0, a_0, b_1] w (Ret fun t_62 w =>
      pvv prog (binOp .sub 3 limit_2 (.int .i64 1)) w fun t_63 w =>
      k_60 [t_63] w)) <|
    k_60 [limit_2] w) [a_p1, b_p2, limit_p3, (.bool true), (.bool true)] w
theorem B93_eq (data_p0 a_p1 b_p2 limit_p3 : Value) (w : World) (K : Value → World → Prop) : denFn prog Tryz.f93 T93 [data_p0, a_p1, b_p2, limit_p3] w K = B93 data_p0 a_p1 b_p2 limit_p3 w K := by kernel_rfl
theorem c93 {data_p0 a_p1 b_p2 limit_p3 : Value} {w : World} {K : Value → World → Prop} (h : B93 data_p0 a_p1 b_p2 limit_p3 w K) : Calls prog 93 #[data_p0, a_p1, b_p2, limit_p3] w (Ret K) :=
  denFn_calls Tryz.func93 T93_ok (Eq.mpr (B93_eq data_p0 a_p1 b_p2 limit_p3 w K) h)

-- 6 holdfast/holdfastlaw03.WalRefused
def T6 : Ann := (.seq .none (.seq .none (.seq .none (.seq (.seq .none (.seq (.seq .none .none) .none)) (.seq (.seq .none (.block (.loop 4503565267634176 [11] (.seq (.seq .none (.seq .none .none)) (.seq (.block .none) .none))))) (.seq .none (.seq .none (.seq .none (.seq (.seq .none (.seq (.seq .none .none) .none)) (.seq .none .none))))))))))
theorem T6_ok : chkFn prog Tryz.f6 T6 = true := by kernel_rfl
def B6 (size_p0 l_p1 x_p2 : Value) (w : World) (K : Value → World → Prop) : Prop :=
  efv prog (Instr.box 31 x_p2) w fun x_0 w =>
  pvv prog (convert 5 3 size_p0) w fun t_1 w =>
  pvv prog (binOp .rem 3 t_1 (.int .i64 20)) w fun t_2 w =>
  pvv prog (binOp .add 3 t_2 (.int .i64 2)) w fun t_3 w =>
  pvv prog (binOp .add 3 t_3 (.int .i64 10)) w fun t_4 w =>
  Calls prog 7 #[t_4, t_3] w (Ret fun t_5 w =>
  pvv prog (Instr.extract t_5 0) w fun t_6 w =>
  pvv prog (Instr.extract t_5 1) w fun t_7 w =>
  pvv prog (Instr.extract t_5 2) w fun t_8 w =>
  Calls prog 8 #[] w (Ret fun t_9 w =>
  pvv prog (Op.unary .not t_9) w fun t_10 w =>
  gate (some (t_10, false)) (fun K => K t_8 w) w fun t_11 w =>
  gate (some (t_10, false)) (fun K => pvv prog (Op.unary .not t_11) w K) w fun t_12 w =>
  pv prog (oPick t_10 (.bool true) t_12) w fun t_13 w =>
  cd t_13 (
    K (.bool false) w) <|
  lp (fun σ w again_15 => pop σ fun i_14 σ => fin σ <|
    pv prog (oBi .len #[22] 3 #[false] #[l_p1]) w fun t_16 w =>
    pvv prog (binOp .lss 3 i_14 t_16) w fun t_17 w =>
    gate (some (t_17, true)) (fun K => K i_14 w) w fun t_18 w =>
    gate (some (t_17, true)) (fun K => pvv prog (binOp .lss 3 t_18 (.int .i64 20)) w K) w fun t_19 w =>
    pv prog (oPick t_17 t_19 (.bool false)) w fun t_20 w =>
    cd t_20 (
      pvv prog (Instr.indexAt 22 l_p1 i_14) w fun t_21 w =>
      ldv prog (Instr.loadAt 31 t_21) w fun t_22 w =>
      Calls prog 9 #[t_6, t_7, t_22] w (Ret fun t_23 w =>
      pvv prog (binOp .add 3 i_14 (.int .i64 1)) w fun t_24 w =>
      again_15 [t_24] w)) <|
    Calls prog 17 #[t_6] w (Ret fun t_25 w =>
    Calls prog 12 #[t_6] w (Ret fun t_26 w =>
    Calls prog 18 #[t_6] w (Ret fun t_27 w =>
    ldv prog (Instr.loadAt 31 x_0) w fun t_28 w =>
    Calls prog 22 #[t_28] w (Ret fun t_29 w =>
    Calls prog 23 #[t_6, t_29] w (Ret fun t_30 w =>
    pvv prog (oEq .eql 34 (.tmp 63) (.const (.int .i64 0)) t_30 (.int .i64 0)) w fun t_31 w =>
    gate (some (t_31, true)) (fun K => K t_29 w) w fun t_32 w =>
    gate (some (t_31, true)) (fun K => pv prog (oBi .len #[49] 3 #[false] #[t_32]) w K) w fun t_33 w =>
    gate (some (t_31, true)) (fun K => pvv prog (binOp .gtr 3 t_33 (.int .i64 0)) w K) w fun t_34 w =>
    pv prog (oPick t_31 t_34 (.bool false)) w fun t_35 w =>
    cd t_35 (
      Calls prog 18 #[t_6] w (Ret fun t_36 w =>
      pvv prog (binOp .add 3 t_27 (.int .i64 1)) w fun t_37 w =>
      pvv prog (oEq .eql 3 (.tmp 71) (.tmp 73) t_36 t_37) w fun t_38 w =>
      gate (some (t_38, true)) (fun K => K t_6 w) w fun t_39 w =>
      gate (some (t_38, true)) (fun K => Calls prog 12 #[t_39] w (Ret K)) w fun t_40 w =>
      gate (some (t_38, true)) (fun K => K t_26 w) w fun t_41 w =>
      gate (some (t_38, true)) (fun K => K t_29 w) w fun t_42 w =>
      gate (some (t_38, true)) (fun K => pv prog (oBi .len #[49] 3 #[false] #[t_42]) w K) w fun t_43 w =>
      gate (some (t_38, true)) (fun K => Calls prog 24 #[t_43] w (Ret K)) w fun t_44 w =>
      gate (some (t_38, true)) (fun K => pvv prog (binOp .add 3 t_41 t_44) w K) w fun t_45 w =>
      gate (some (t_38, true)) (fun K => pvv prog (oEq .eql 3 (.tmp 77) (.tmp 82) t_40 t_45) w K) w fun t_46 w =>
      pv prog (oPick t_38 t_46 (.bool false)) w fun t_47 w =>
      K t_47 w)) <|
    Calls prog 17 #[t_6] w (Ret fun t_48 w =>
    Calls prog 25 #[t_25, t_48] w (Ret fun t_49 w =>
    gate (some (t_49, true)) (fun K => K t_6 w) w fun t_50 w =>
    gate (some (t_49, true)) (fun K => Calls prog 17 #[t_50] w (Ret K)) w fun t_51 w =>
    gate (some (t_49, true)) (fun K => Calls prog 20 #[t_51] w (Ret K)) w fun t_52 w =>
    gate (some (t_49, true)) (fun K => K t_25 w) w fun t_53 w =>
    gate (some (t_49, true)) (fun K => Calls prog 20 #[t_53] w (Ret K)) w fun t_54 w =>
    gate (some (t_49, true)) (fun K => pvv prog (oEq .eql 3 (.tmp 92) (.tmp 94) t_52 t_54) w K) w fun t_55 w =>
    pv prog (oPick t_49 t_55 (.bool false)) w fun t_56 w =>
    gate (some (t_56, true)) (fun K => K t_6 w) w fun t_57 w =>
    gate (some (t_56, true)) (fun K => Calls prog 12 #[t_57] w (Ret K)) w fun t_58 w =>
    gate (some (t_56, true)) (fun K => K t_26 w) w fun t_59 w =>
    gate (some (t_56, true)) (fun K => pvv prog (oEq .eql 3 (.tmp 99) (.tmp 100) t_58 t_59) w K) w fun t_60 w =>
    pv prog (oPick t_56 t_60 (.bool false)) w fun t_61 w =>
    gate (some (t_61, true)) (fun K => K t_6 w) w fun t_62 w =>
    gate (some (t_61, true)) (fun K => Calls prog 18 #[t_62] w (Ret K)) w fun t_63 w =>
    gate (some (t_61, true)) (fun K => K t_27 w) w fun t_64 w =>
    gate (some (t_61, true)) (fun K => pvv prog (oEq .eql 3 (.tmp 105) (.tmp 106) t_63 t_64) w K) w fun t_65 w =>
    pv prog (oPick t_61 t_65 (.bool false)) w fun t_66 w =>
    K t_66 w)))))))) [(.int .i64 0)] w))
theorem B6_eq (size_p0 l_p1 x_p2 : Value) (w : World) (K : Value → World → Prop) : denFn prog Tryz.f6 T6 [size_p0, l_p1, x_p2] w K = B6 size_p0 l_p1 x_p2 w K := by kernel_rfl
theorem c6 {size_p0 l_p1 x_p2 : Value} {w : World} {K : Value → World → Prop} (h : B6 size_p0 l_p1 x_p2 w K) : Calls prog 6 #[size_p0, l_p1, x_p2] w (Ret K) :=
  denFn_calls Tryz.func6 T6_ok (Eq.mpr (B6_eq size_p0 l_p1 x_p2 w K) h)

-- 4 holdfast/holdfastlaw03.WalOpens
def T4 : Ann := (.seq .none (.seq .none (.seq .none (.seq (.seq .none (.seq (.seq .none .none) .none)) (.seq (.seq .none (.block (.loop 281473902969360 [9] (.seq (.seq .none (.seq .none .none)) (.seq (.block (.seq .none (.seq (.seq .none .none) .none))) .none))))) (.seq .none (.seq .none .none)))))))
theorem T4_ok : chkFn prog Tryz.f4 T4 = true := by kernel_rfl
def B4 (size_p0 l_p1 : Value) (w : World) (K : Value → World → Prop) : Prop :=
  pvv prog (convert 5 3 size_p0) w fun t_0 w =>
  pvv prog (binOp .rem 3 t_0 (.int .i64 20)) w fun t_1 w =>
  pvv prog (binOp .add 3 t_1 (.int .i64 2)) w fun t_2 w =>
  pvv prog (binOp .add 3 t_2 (.int .i64 10)) w fun t_3 w =>
  Calls prog 7 #[t_3, t_2] w (Ret fun t_4 w =>
  pvv prog (Instr.extract t_4 0) w fun t_5 w =>
  pvv prog (Instr.extract t_4 1) w fun t_6 w =>
  pvv prog (Instr.extract t_4 2) w fun t_7 w =>
  Calls prog 8 #[] w (Ret fun t_8 w =>
  pvv prog (Op.unary .not t_8) w fun t_9 w =>
  gate (some (t_9, false)) (fun K => K t_7 w) w fun t_10 w =>
  gate (some (t_9, false)) (fun K => pvv prog (Op.unary .not t_10) w K) w fun t_11 w =>
  pv prog (oPick t_9 (.bool true) t_11) w fun t_12 w =>
  cd t_12 (
    K (.bool false) w) <|
  lp (fun σ w again_14 => pop σ fun i_13 σ => fin σ <|
    pv prog (oBi .len #[22] 3 #[false] #[l_p1]) w fun t_15 w =>
    pvv prog (binOp .lss 3 i_13 t_15) w fun t_16 w =>
    gate (some (t_16, true)) (fun K => K i_13 w) w fun t_17 w =>
    gate (some (t_16, true)) (fun K => pvv prog (binOp .lss 3 t_17 (.int .i64 20)) w K) w fun t_18 w =>
    pv prog (oPick t_16 t_18 (.bool false)) w fun t_19 w =>
    cd t_19 (
      pvv prog (Instr.indexAt 22 l_p1 i_13) w fun t_20 w =>
      ldv prog (Instr.loadAt 31 t_20) w fun t_21 w =>
      Calls prog 9 #[t_5, t_6, t_21] w (Ret fun t_22 w =>
      pvv prog (Op.unary .not t_22) w fun t_23 w =>
      cd t_23 (
        K (.bool false) w) <|
      pvv prog (binOp .add 3 i_13 (.int .i64 1)) w fun t_24 w =>
      again_14 [t_24] w)) <|
    Calls prog 17 #[t_5] w (Ret fun t_25 w =>
    Calls prog 16 #[t_25, t_2] w (Ret fun t_26 w =>
    pvv prog (Instr.extract t_26 0) w fun t_27 w =>
    pvv prog (Instr.extract t_26 1) w fun t_28 w =>
    pvv prog (oEq .eql 34 (.tmp 55) (.const (.int .i64 0)) t_28 (.int .i64 0)) w fun t_29 w =>
    gate (some (t_29, true)) (fun K => K t_5 w) w fun t_30 w =>
    gate (some (t_29, true)) (fun K => Calls prog 10 #[t_30] w (Ret K)) w fun t_31 w =>
    gate (some (t_29, true)) (fun K => K t_27 w) w fun t_32 w =>
    gate (some (t_29, true)) (fun K => Calls prog 10 #[t_32] w (Ret K)) w fun t_33 w =>
    gate (some (t_29, true)) (fun K => Calls prog 15 #[t_31, t_33] w (Ret K)) w fun t_34 w =>
    pv prog (oPick t_29 t_34 (.bool false)) w fun t_35 w =>
    gate (some (t_35, true)) (fun K => K t_27 w) w fun t_36 w =>
    gate (some (t_35, true)) (fun K => Calls prog 12 #[t_36] w (Ret K)) w fun t_37 w =>
    gate (some (t_35, true)) (fun K => K t_5 w) w fun t_38 w =>
    gate (some (t_35, true)) (fun K => Calls prog 12 #[t_38] w (Ret K)) w fun t_39 w =>
    gate (some (t_35, true)) (fun K => pvv prog (oEq .eql 3 (.tmp 66) (.tmp 68) t_37 t_39) w K) w fun t_40 w =>
    pv prog (oPick t_35 t_40 (.bool false)) w fun t_41 w =>
    gate (some (t_41, true)) (fun K => K t_27 w) w fun t_42 w =>
    gate (some (t_41, true)) (fun K => Calls prog 18 #[t_42] w (Ret K)) w fun t_43 w =>
    gate (some (t_41, true)) (fun K => K t_5 w) w fun t_44 w =>
    gate (some (t_41, true)) (fun K => Calls prog 18 #[t_44] w (Ret K)) w fun t_45 w =>
    gate (some (t_41, true)) (fun K => pvv prog (oEq .eql 3 (.tmp 73) (.tmp 75) t_43 t_45) w K) w fun t_46 w =>
    pv prog (oPick t_41 t_46 (.bool false)) w fun t_47 w =>
    gate (some (t_47, true)) (fun K => K t_27 w) w fun t_48 w =>
    gate (some (t_47, true)) (fun K => Calls prog 14 #[t_48] w (Ret K)) w fun t_49 w =>
    gate (some (t_47, true)) (fun K => K t_5 w) w fun t_50 w =>
    gate (some (t_47, true)) (fun K => Calls prog 14 #[t_50] w (Ret K)) w fun t_51 w =>
    gate (some (t_47, true)) (fun K => Calls prog 19 #[t_49, t_51] w (Ret K)) w fun t_52 w =>
    pv prog (oPick t_47 t_52 (.bool false)) w fun t_53 w =>
    gate (some (t_53, true)) (fun K => K t_27 w) w fun t_54 w =>
    gate (some (t_53, true)) (fun K => Calls prog 17 #[t_54] w (Ret K)) w fun t_55 w =>
    gate (some (t_53, true)) (fun K => Calls prog 20 #[t_55] w (Ret K)) w fun t_56 w =>
    gate (some (t_53, true)) (fun K => pvv prog (oEq .eql 3 (.tmp 88) (.const (.int .i64 0)) t_56 (.int .i64 0)) w K) w fun t_57 w =>
    pv prog (oPick t_53 t_57 (.bool false)) w fun t_58 w =>
    K t_58 w))) [(.int .i64 0)] w))
theorem B4_eq (size_p0 l_p1 : Value) (w : World) (K : Value → World → Prop) : denFn prog Tryz.f4 T4 [size_p0, l_p1] w K = B4 size_p0 l_p1 w K := by kernel_rfl
theorem c4 {size_p0 l_p1 : Value} {w : World} {K : Value → World → Prop} (h : B4 size_p0 l_p1 w K) : Calls prog 4 #[size_p0, l_p1] w (Ret K) :=
  denFn_calls Tryz.func4 T4_ok (Eq.mpr (B4_eq size_p0 l_p1 w K) h)

-- 8 holdfast/holdfastlaw03.live
def T8 : Ann := (.seq .none (.seq .none (.seq .none (.seq .none (.seq .none (.seq .none (.seq .none .none)))))))
theorem T8_ok : chkFn prog Tryz.f8 T8 = true := by kernel_rfl
def B8 (w : World) (K : Value → World → Prop) : Prop :=
  Calls prog 26 #[(.int .i64 8)] w (Ret fun t_0 w =>
  pvv prog (Instr.extract t_0 0) w fun t_1 w =>
  pvv prog (Instr.extract t_0 1) w fun t_2 w =>
  Calls prog 16 #[t_1, (.int .i64 3)] w (Ret fun t_3 w =>
  pvv prog (Instr.extract t_3 0) w fun t_4 w =>
  pvv prog (Instr.extract t_3 1) w fun t_5 w =>
  efv prog (Instr.buildSlice 29 2 #[(0, (.int .i64 2)), (1, (.int .i64 0))]) w fun t_6 w =>
  pvv prog (Instr.build 31 #[(2, t_6), (3, (.int .u8 5))]) w fun t_7 w =>
  Calls prog 22 #[t_7] w (Ret fun t_8 w =>
  Calls prog 23 #[t_4, t_8] w (Ret fun t_9 w =>
  Calls prog 17 #[t_4] w (Ret fun t_10 w =>
  Calls prog 29 #[t_10] w (Ret fun t_11 w =>
  Calls prog 30 #[t_4, (.int .i64 0)] w (Ret fun t_12 w =>
  pvv prog (Instr.extract t_12 0) w fun t_13 w =>
  pvv prog (Instr.extract t_12 1) w fun t_14 w =>
  pvv prog (oEq .eql 34 (.tmp 31) (.const (.int .i64 0)) t_5 (.int .i64 0)) w fun t_15 w =>
  gate (some (t_15, true)) (fun K => K t_9 w) w fun t_16 w =>
  gate (some (t_15, true)) (fun K => pvv prog (oEq .eql 34 (.tmp 34) (.const (.int .i64 0)) t_16 (.int .i64 0)) w K) w fun t_17 w =>
  pv prog (oPick t_15 t_17 (.bool false)) w fun t_18 w =>
  gate (some (t_18, true)) (fun K => K t_14 w) w fun t_19 w =>
  gate (some (t_18, true)) (fun K => pvv prog (oEq .eql 34 (.tmp 38) (.const (.int .i64 0)) t_19 (.int .i64 0)) w K) w fun t_20 w =>
  pv prog (oPick t_18 t_20 (.bool false)) w fun t_21 w =>
  gate (some (t_21, true)) (fun K => K t_11 w) w fun t_22 w =>
  gate (some (t_21, true)) (fun K => efv prog (Instr.buildSlice 29 4 #[(0, (.int .i64 1)), (1, (.int .i64 2)), (2, (.int .i64 3)), (3, (.int .i64 0))]) w K) w fun t_23 w =>
  gate (some (t_21, true)) (fun K => Calls prog 19 #[t_22, t_23] w (Ret K)) w fun t_24 w =>
  pv prog (oPick t_21 t_24 (.bool false)) w fun t_25 w =>
  gate (some (t_25, true)) (fun K => K t_13 w) w fun t_26 w =>
  gate (some (t_25, true)) (fun K => pv prog (oBi .len #[60] 3 #[false] #[t_26]) w K) w fun t_27 w =>
  gate (some (t_25, true)) (fun K => pvv prog (oEq .eql 3 (.tmp 48) (.const (.int .i64 256)) t_27 (.int .i64 256)) w K) w fun t_28 w =>
  pv prog (oPick t_25 t_28 (.bool false)) w fun t_29 w =>
  gate (some (t_29, true)) (fun K => K t_13 w) w fun t_30 w =>
  gate (some (t_29, true)) (fun K => pvv prog (Instr.indexAt 60 t_30 (.int .i64 0)) w K) w fun t_31 w =>
  gate (some (t_29, true)) (fun K => ldv prog (Instr.loadAt 5 t_31) w K) w fun t_32 w =>
  gate (some (t_29, true)) (fun K => pvv prog (oEq .eql 5 (.tmp 54) (.const (.int .u8 6)) t_32 (.int .u8 6)) w K) w fun t_33 w =>
  pv prog (oPick t_29 t_33 (.bool false)) w fun t_34 w =>
  gate (some (t_34, true)) (fun K => K t_4 w) w fun t_35 w =>
  gate (some (t_34, true)) (fun K => Calls prog 12 #[t_35] w (Ret K)) w fun t_36 w =>
  gate (some (t_34, true)) (fun K => pvv prog (oEq .eql 3 (.tmp 59) (.const (.int .i64 3)) t_36 (.int .i64 3)) w K) w fun t_37 w =>
  pv prog (oPick t_34 t_37 (.bool false)) w fun t_38 w =>
  gate (some (t_38, true)) (fun K => Calls prog 24 #[(.int .i64 2)] w (Ret K)) w fun t_39 w =>
  gate (some (t_38, true)) (fun K => pvv prog (oEq .eql 3 (.tmp 63) (.const (.int .i64 3)) t_39 (.int .i64 3)) w K) w fun t_40 w =>
  pv prog (oPick t_38 t_40 (.bool false)) w fun t_41 w =>
  K t_41 w)))))))
theorem B8_eq (w : World) (K : Value → World → Prop) : denFn prog Tryz.f8 T8 [] w K = B8  w K := by kernel_rfl
theorem c8 {w : World} {K : Value → World → Prop} (h : B8  w K) : Calls prog 8 #[] w (Ret K) :=
  denFn_calls Tryz.func8 T8_ok (Eq.mpr (B8_eq  w K) h)

-- 89 (*holdfast/holdfastref01.Disk).Read
def T89 : Ann := (.seq .none (.seq (.block (.seq .none (.seq (.seq .none .none) (.seq .none (.seq (.seq .none .none) .none))))) (.seq (.seq .none (.block (.loop 2251799545249904 [6] (.seq (.seq .none (.seq .none .none)) (.seq (.block (.seq .none (.seq (.seq .none .none) .none))) .none))))) (.seq .none .none))))
theorem T89_ok : chkFn prog Tryz.f89 T89 = true := by kernel_rfl
def B89 (d_p0 n_p1 : Value) (w : World) (K : Value → World → Prop) : Prop :=
  pvv prog (oEq .eql 55 (.tmp 8) (.const (.pointer none)) d_p0 (.pointer none)) w fun t_0 w =>
  cd t_0 (
    K (.tuple #[(.slice none 0 0), (.int .i64 1)]) w) <|
  pvv prog (binOp .lss 3 n_p1 (.int .i64 0)) w fun t_1 w =>
  gate (some (t_1, false)) (fun K => K n_p1 w) w fun t_2 w =>
  gate (some (t_1, false)) (fun K => K d_p0 w) w fun t_3 w =>
  gate (some (t_1, false)) (fun K => pv prog (oNil t_3) w K) w fun t_4 w =>
  gate (some (t_1, false)) (fun K => pvv prog (Instr.fieldAt 105 t_4 0) w K) w fun t_5 w =>
  gate (some (t_1, false)) (fun K => ldv prog (Instr.loadAt 32 t_5) w K) w fun t_6 w =>
  gate (some (t_1, false)) (fun K => pv prog (oBi .len #[32] 3 #[false] #[t_6]) w K) w fun t_7 w =>
  gate (some (t_1, false)) (fun K => pvv prog (binOp .geq 3 t_2 t_7) w K) w fun t_8 w =>
  pv prog (oPick t_1 (.bool true) t_8) w fun t_9 w =>
  cd t_9 (
    K (.tuple #[(.slice none 0 0), (.int .i64 2)]) w) <|
  pv prog (oNil d_p0) w fun t_10 w =>
  pvv prog (Instr.fieldAt 105 t_10 1) w fun t_11 w =>
  ldv prog (Instr.loadAt 103 t_11) w fun t_12 w =>
  pv prog (oBi .len #[103] 3 #[false] #[t_12]) w fun t_13 w =>
  pvv prog (binOp .sub 3 t_13 (.int .i64 1)) w fun t_14 w =>
  lp (fun σ w again_16 => pop σ fun i_15 σ => fin σ <|
    pvv prog (binOp .geq 3 i_15 (.int .i64 0)) w fun t_17 w =>
    cd t_17 (
      pv prog (oNil d_p0) w fun t_18 w =>
      pvv prog (Instr.fieldAt 105 t_18 1) w fun t_19 w =>
      ldv prog (Instr.loadAt 103 t_19) w fun t_20 w =>
      pvv prog (Instr.indexAt 103 t_20 i_15) w fun t_21 w =>
      pvv prog (Instr.fieldAt 132 t_21 0) w fun t_22 w =>
      ldv prog (Instr.loadAt 3 t_22) w fun t_23 w =>
      pvv prog (oEq .eql 3 (.tmp 39) (.tmp 40) t_23 n_p1) w fun t_24 w =>
      cd t_24 (
        pv prog (oNil d_p0) w fun t_25 w =>
        pvv prog (Instr.fieldAt 105 t_25 1) w fun t_26 w =>
        ldv prog (Instr.loadAt 103 t_26) w fun t_27 w =>
        pvv prog (Instr.indexAt 103 t_27 i_15) w fun t_28 w =>
        pvv prog (Instr.fieldAt 132 t_28 1) w fun t_29 w =>
        ldv prog (Instr.loadAt 60 t_29) w fun t_30 w =>
        Calls prog 90 #[t_30] w (Ret fun t_31 w =>
        K (.tuple #[t_31, (.int .i64 0)]) w)) <|
      pvv prog (binOp .sub 3 i_15 (.int .i64 1)) w fun t_32 w =>
      again_16 [t_32] w) <|
    pv prog (oNil d_p0) w fun t_33 w =>
    pvv prog (Instr.fieldAt 105 t_33 0) w fun t_34 w =>
    ldv prog (Instr.loadAt 32 t_34) w fun t_35 w =>
    pvv prog (Instr.indexAt 32 t_35 n_p1) w fun t_36 w =>
    ldv prog (Instr.loadAt 60 t_36) w fun t_37 w =>
    Calls prog 90 #[t_37] w (Ret fun t_38 w =>
    K (.tuple #[t_38, (.int .i64 0)]) w)) [t_14] w
theorem B89_eq (d_p0 n_p1 : Value) (w : World) (K : Value → World → Prop) : denFn prog Tryz.f89 T89 [d_p0, n_p1] w K = B89 d_p0 n_p1 w K := by kernel_rfl
theorem c89 {d_p0 n_p1 : Value} {w : World} {K : Value → World → Prop} (h : B89 d_p0 n_p1 w K) : Calls prog 89 #[d_p0, n_p1] w (Ret K) :=
  denFn_calls Tryz.func89 T89_ok (Eq.mpr (B89_eq d_p0 n_p1 w K) h)

-- 9 holdfast/holdfastlaw03.do
def T9 : Ann := (.seq .none (.seq (.seq .none (.seq (.seq .none .none) .none)) (.seq .none (.seq (.draw [.op 0 .pure, .op 1 .pure, .op 3 .pure, .op 4 .load, .op 2 .eff, .op 5 .eff, .op 6 .eff, .op 7 .pure, .op 8 .pure]) (.seq (.seq .none (.block (.loop 2251799545251328 [9] (.seq (.seq .none (.seq .none .none)) (.seq (.block (.seq .none (.block (.loop 2251782633817088 [10] (.seq (.seq .none (.seq .none .none)) (.seq (.block .none) .none)))))) .none))))) (.seq .none .none))))))
theorem T9_ok : chkFn prog Tryz.f9 T9 = true := by kernel_rfl
def B9 (l_p0 m_p1 x_p2 : Value) (w : World) (K : Value → World → Prop) : Prop :=
  efv prog (Instr.box 31 x_p2) w fun x_0 w =>
  pvv prog (Instr.fieldAt 31 x_0 0) w fun t_1 w =>
  ldv prog (Instr.loadAt 4 t_1) w fun t_2 w =>
  cd t_2 (
    Calls prog 11 #[l_p0] w (Ret fun t_3 w =>
    Calls prog 31 #[m_p1] w (Ret fun t_4 w =>
    pvv prog (oEq .eql 34 (.tmp 14) (.tmp 16) t_3 t_4) w fun t_5 w =>
    K t_5 w))) <|
  ldv prog (Instr.loadAt 31 x_0) w fun t_6 w =>
  Calls prog 22 #[t_6] w (Ret fun t_7 w =>
  dr w fun w =>
  bindS (vN (Instr.loadAt 31 x_0)) fun m_9 => ldv prog (Instr.loadAt 31 x_0) w fun t_8 w =>
  Calls prog 23 #[l_p0, t_7] w (Ret fun t_10 w => stay prog none m_9 t_8 w <| 
  Calls prog 22 #[t_8] w (Ret fun t_11 w =>
  Calls prog 32 #[m_p1, t_11] w (Ret fun t_12 w => stay prog none m_9 t_8 w <| 
  pvv prog (oEq .eql 34 (.tmp 22) (.tmp 26) t_10 t_12) w fun t_13 w =>
  lp (fun σ w again_15 => pop σ fun i_14 σ => fin σ <|
    pv prog (oBi .len #[49] 3 #[false] #[t_7]) w fun t_16 w =>
    pvv prog (binOp .lss 3 i_14 t_16) w fun t_17 w =>
    cd t_17 (
      lp (fun σ w again_19 => pop σ fun k_18 σ => fin σ <|
        pvv prog (Instr.indexAt 49 t_7 i_14) w fun t_20 w =>
        pvv prog (Instr.fieldAt 65 t_20 1) w fun t_21 w =>
        ldv prog (Instr.loadAt 60 t_21) w fun t_22 w =>
        pv prog (oBi .len #[60] 3 #[false] #[t_22]) w fun t_23 w =>
        pvv prog (binOp .lss 3 k_18 t_23) w fun t_24 w =>
        cd t_24 (
          pvv prog (Instr.indexAt 49 t_7 i_14) w fun t_25 w =>
          pvv prog (Instr.fieldAt 65 t_25 1) w fun t_26 w =>
          ldv prog (Instr.loadAt 60 t_26) w fun t_27 w =>
          pvv prog (Instr.indexAt 60 t_27 k_18) w fun t_28 w =>
          efu prog (Instr.storeAt 5 t_28 (.int .u8 99)) w fun u_29 w =>
          pvv prog (binOp .add 3 k_18 (.int .i64 1)) w fun t_30 w =>
          again_19 [t_30] w) <|
        pvv prog (binOp .add 3 i_14 (.int .i64 1)) w fun t_31 w =>
        again_15 [t_31] w) [(.int .i64 0)] w) <|
    K t_13 w) [(.int .i64 0)] w))))
theorem B9_eq (l_p0 m_p1 x_p2 : Value) (w : World) (K : Value → World → Prop) : denFn prog Tryz.f9 T9 [l_p0, m_p1, x_p2] w K = B9 l_p0 m_p1 x_p2 w K := by kernel_rfl
theorem c9 {l_p0 m_p1 x_p2 : Value} {w : World} {K : Value → World → Prop} (h : B9 l_p0 m_p1 x_p2 w K) : Calls prog 9 #[l_p0, m_p1, x_p2] w (Ret K) :=
  denFn_calls Tryz.func9 T9_ok (Eq.mpr (B9_eq l_p0 m_p1 x_p2 w K) h)

-- 99 slices.heapSortOrdered[int]
def T99 : Ann := (.seq .none (.seq .none (.seq .none (.seq (.seq .none (.block (.loop 133956096 [9] (.seq (.seq .none (.seq .none .none)) (.seq (.block .none) .none))))) (.seq .none (.block (.loop 72057593501058048 [10] (.seq (.seq .none (.seq .none .none)) (.seq (.block (.seq (.draw [.op 0 .pure, .op 1 .pure, .op 2 .pure, .op 3 .pure, .op 4 .pure, .op 5 .pure, .op 6 .pure, .op 7 .pure, .op 8 .pure, .op 9 .pure, .op 10 .pure, .op 12 .pure, .op 13 .pure, .op 14 .pure, .op 11 .load, .op 15 .load, .op 16 .pure, .op 17 .eff, .op 18 .pure, .op 19 .eff]) .none)) .none)))))))))
theorem T99_ok : chkFn prog Tryz.f99 T99 = true := by kernel_rfl
def B99 (data_p0 a_p1 b_p2 : Value) (w : World) (K : Value → World → Prop) : Prop :=
  pvv prog (binOp .sub 3 b_p2 a_p1) w fun t_0 w =>
  pvv prog (binOp .sub 3 t_0 (.int .i64 1)) w fun t_1 w =>
  pvv prog (binOp .quo 3 t_1 (.int .i64 2)) w fun t_2 w =>
  lp (fun σ w again_4 => pop σ fun i_3 σ => fin σ <|
    pvv prog (binOp .geq 3 i_3 (.int .i64 0)) w fun t_5 w =>
    cd t_5 (
      Calls prog 109 #[data_p0, i_3, t_0, a_p1] w (Ret fun t_6 w =>
      pvv prog (binOp .sub 3 i_3 (.int .i64 1)) w fun t_7 w =>
      again_4 [t_7] w)) <|
    pvv prog (binOp .sub 3 t_0 (.int .i64 1)) w fun t_8 w =>
    lp (fun σ w again_10 => pop σ fun i_9 σ => fin σ <|
      pvv prog (binOp .geq 3 i_9 (.int .i64 0)) w fun t_11 w =>
      cd t_11 (
        dr w fun w =>
        pvv prog (binOp .add 3 a_p1 i_9) w fun t_12 w =>
        pvv prog (binOp .add 3 a_p1 i_9) w fun t_13 w =>
        pvv prog (Instr.indexAt 29 data_p0 t_13) w fun t_14 w =>
        pvv prog (Instr.indexAt 29 data_p0 a_p1) w fun t_15 w =>
        bindS (vN (Instr.loadAt 3 t_14)) fun m_17 => ldv prog (Instr.loadAt 3 t_14) w fun t_16 w =>
        bindS (vN (Instr.loadAt 3 t_15)) fun m_19 => ldv prog (Instr.loadAt 3 t_15) w fun t_18 w =>
        pvv prog (Instr.indexAt 29 data_p0 a_p1) w fun t_20 w =>
        efu prog (Instr.storeAt 3 t_20 t_16) w fun u_21 w =>
        pvv prog (Instr.indexAt 29 data_p0 t_12) w fun t_22 w =>
        efu prog (Instr.storeAt 3 t_22 t_18) w fun u_23 w =>
        Calls prog 109 #[data_p0, (.int .i64 0), i_9, a_p1] w (Ret fun t_24 w =>
        pvv prog (binOp .sub 3 i_9 (.int .i64 1)) w fun t_25 w =>
        again_10 [t_25] w)) <|
      K (.tuple #[]) w) [t_8] w) [t_2] w
theorem B99_eq (data_p0 a_p1 b_p2 : Value) (w : World) (K : Value → World → Prop) : denFn prog Tryz.f99 T99 [data_p0, a_p1, b_p2] w K = B99 data_p0 a_p1 b_p2 w K := by kernel_rfl
theorem c99 {data_p0 a_p1 b_p2 : Value} {w : World} {K : Value → World → Prop} (h : B99 data_p0 a_p1 b_p2 w K) : Calls prog 99 #[data_p0, a_p1, b_p2] w (Ret K) :=
  denFn_calls Tryz.func99 T99_ok (Eq.mpr (B99_eq data_p0 a_p1 b_p2 w K) h)

-- 111 (*slices.xorshift).Next
def T111 : Ann := (.seq .none (.seq (.draw [.op 0 .pure, .op 1 .pure, .op 3 .pure, .op 4 .pure, .op 2 .load, .op 5 .load, .op 6 .pure, .op 7 .pure, .op 8 .pure, .op 9 .eff]) (.seq (.draw [.op 0 .pure, .op 1 .pure, .op 3 .pure, .op 4 .pure, .op 2 .load, .op 5 .load, .op 6 .pure, .op 7 .pure, .op 8 .pure, .op 9 .eff]) (.seq (.draw [.op 0 .pure, .op 1 .pure, .op 3 .pure, .op 4 .pure, .op 2 .load, .op 5 .load, .op 6 .pure, .op 7 .pure, .op 8 .pure, .op 9 .eff]) (.seq .none .none)))))
theorem T111_ok : chkFn prog Tryz.f111 T111 = true := by kernel_rfl
def B111 (r_p0 : Value) (w : World) (K : Value → World → Prop) : Prop :=
  dr w fun w =>
  pv prog (oNil r_p0) w fun t_0 w =>
  pv prog (oNil r_p0) w fun t_1 w =>
  bindS (vN (Instr.loadAt 152 t_0)) fun m_3 => ldv prog (Instr.loadAt 152 t_0) w fun t_2 w =>
  bindS (vN (Instr.loadAt 152 t_1)) fun m_5 => ldv prog (Instr.loadAt 152 t_1) w fun t_4 w =>
  pvv prog (binOp .shl 152 t_4 (.int .u64 13)) w fun t_6 w =>
  pvv prog (binOp .xor 152 t_2 t_6) w fun t_7 w =>
  pv prog (oNil r_p0) w fun t_8 w =>
  efu prog (Instr.storeAt 152 t_8 t_7) w fun u_9 w =>
  dr w fun w =>
  pv prog (oNil r_p0) w fun t_10 w =>
  pv prog (oNil r_p0) w fun t_11 w =>
  bindS (vN (Instr.loadAt 152 t_10)) fun m_13 => ldv prog (Instr.loadAt 152 t_10) w fun t_12 w =>
  bindS (vN (Instr.loadAt 152 t_11)) fun m_15 => ldv prog (Instr.loadAt 152 t_11) w fun t_14 w =>
  pvv prog (binOp .shr 152 t_14 (.int .u64 7)) w fun t_16 w =>
  pvv prog (binOp .xor 152 t_12 t_16) w fun t_17 w =>
  pv prog (oNil r_p0) w fun t_18 w =>
  efu prog (Instr.storeAt 152 t_18 t_17) w fun u_19 w =>
  dr w fun w =>
  pv prog (oNil r_p0) w fun t_20 w =>
  pv prog (oNil r_p0) w fun t_21 w =>
  bindS (vN (Instr.loadAt 152 t_20)) fun m_23 => ldv prog (Instr.loadAt 152 t_20) w fun t_22 w =>
  bindS (vN (Instr.loadAt 152 t_21)) fun m_25 => ldv prog (Instr.loadAt 152 t_21) w fun t_24 w =>
  pvv prog (binOp .shl 152 t_24 (.int .u64 17)) w fun t_26 w =>
  pvv prog (binOp .xor 152 t_22 t_26) w fun t_27 w =>
  pv prog (oNil r_p0) w fun t_28 w =>
  efu prog (Instr.storeAt 152 t_28 t_27) w fun u_29 w =>
  pv prog (oNil r_p0) w fun t_30 w =>
  ldv prog (Instr.loadAt 152 t_30) w fun t_31 w =>
  K t_31 w
theorem B111_eq (r_p0 : Value) (w : World) (K : Value → World → Prop) : denFn prog Tryz.f111 T111 [r_p0] w K = B111 r_p0 w K := by kernel_rfl
theorem c111 {r_p0 : Value} {w : World} {K : Value → World → Prop} (h : B111 r_p0 w K) : Calls prog 111 #[r_p0] w (Ret K) :=
  denFn_calls Tryz.func111 T111_ok (Eq.mpr (B111_eq r_p0 w K) h)

-- 7 holdfast/holdfastlaw03.open
def T7 : Ann := (.seq .none (.seq .none (.seq .none (.seq (.seq .none (.seq (.seq .none .none) .none)) (.seq .none (.seq .none (.seq .none .none)))))))
theorem T7_ok : chkFn prog Tryz.f7 T7 = true := by kernel_rfl
def B7 (blocks_p0 size_p1 : Value) (w : World) (K : Value → World → Prop) : Prop :=
  Calls prog 26 #[blocks_p0] w (Ret fun t_0 w =>
  pvv prog (Instr.extract t_0 0) w fun t_1 w =>
  pvv prog (Instr.extract t_0 1) w fun t_2 w =>
  Calls prog 27 #[blocks_p0] w (Ret fun t_3 w =>
  pvv prog (Instr.extract t_3 0) w fun t_4 w =>
  pvv prog (Instr.extract t_3 1) w fun t_5 w =>
  pvv prog (oEq .neq 34 (.tmp 25) (.tmp 26) t_2 t_5) w fun t_6 w =>
  cd t_6 (
    K (.tuple #[(.pointer none), (.pointer none), (.bool false)]) w) <|
  Calls prog 16 #[t_1, size_p1] w (Ret fun t_7 w =>
  pvv prog (Instr.extract t_7 0) w fun t_8 w =>
  pvv prog (Instr.extract t_7 1) w fun t_9 w =>
  Calls prog 28 #[t_4, size_p1] w (Ret fun t_10 w =>
  pvv prog (Instr.extract t_10 0) w fun t_11 w =>
  pvv prog (Instr.extract t_10 1) w fun t_12 w =>
  pvv prog (oEq .eql 34 (.tmp 42) (.tmp 43) t_9 t_12) w fun t_13 w =>
  gate (some (t_13, true)) (fun K => K t_8 w) w fun t_14 w =>
  gate (some (t_13, true)) (fun K => pvv prog (oEq .eql 23 (.tmp 46) (.const (.pointer none)) t_14 (.pointer none)) w K) w fun t_15 w =>
  gate (some (t_13, true)) (fun K => K t_11 w) w fun t_16 w =>
  gate (some (t_13, true)) (fun K => pvv prog (oEq .eql 24 (.tmp 48) (.const (.pointer none)) t_16 (.pointer none)) w K) w fun t_17 w =>
  gate (some (t_13, true)) (fun K => pvv prog (oEq .eql 4 (.tmp 47) (.tmp 49) t_15 t_17) w K) w fun t_18 w =>
  pv prog (oPick t_13 t_18 (.bool false)) w fun t_19 w =>
  K (.tuple #[t_8, t_11, t_19]) w))))
theorem B7_eq (blocks_p0 size_p1 : Value) (w : World) (K : Value → World → Prop) : denFn prog Tryz.f7 T7 [blocks_p0, size_p1] w K = B7 blocks_p0 size_p1 w K := by kernel_rfl
theorem c7 {blocks_p0 size_p1 : Value} {w : World} {K : Value → World → Prop} (h : B7 blocks_p0 size_p1 w K) : Calls prog 7 #[blocks_p0, size_p1] w (Ret K) :=
  denFn_calls Tryz.func7 T7_ok (Eq.mpr (B7_eq blocks_p0 size_p1 w K) h)

-- 47 (*holdfast/block.Disk).Fork
def T47 : Ann := (.seq .none (.seq (.seq .none (.seq (.seq .none .none) .none)) (.seq (.draw [.op 0 .pure, .op 1 .pure, .op 2 .pure, .op 5 .pure, .op 6 .pure, .op 7 .pure, .op 3 .load, .op 8 .load, .op 4 .eff, .op 9 .eff, .op 10 .pure, .op 11 .eff, .op 12 .pure]) (.seq (.draw [.op 0 .pure, .op 1 .pure, .op 2 .pure, .op 3 .pure, .op 4 .pure, .op 5 .pure, .op 6 .eff, .op 7 .eff]) (.seq .none .none)))))
theorem T47_ok : chkFn prog Tryz.f47 T47 = true := by kernel_rfl
def B47 (d_p0 : Value) (w : World) (K : Value → World → Prop) : Prop :=
  pvv prog (oEq .eql 42 (.tmp 4) (.const (.pointer none)) d_p0 (.pointer none)) w fun t_0 w =>
  cd t_0 (
    K (.pointer none) w) <|
  dr w fun w =>
  pv prog (oNil d_p0) w fun t_1 w =>
  pvv prog (Instr.fieldAt 88 t_1 0) w fun t_2 w =>
  pv prog (oNil d_p0) w fun t_3 w =>
  pvv prog (Instr.fieldAt 88 t_3 1) w fun t_4 w =>
  bindS (vN (Instr.loadAt 32 t_2)) fun m_6 => ldv prog (Instr.loadAt 32 t_2) w fun t_5 w =>
  bindS (vN (Instr.loadAt 81 t_4)) fun m_8 => ldv prog (Instr.loadAt 81 t_4) w fun t_7 w =>
  Calls prog 80 #[t_5] w (Ret fun t_9 w => stay prog none m_8 t_7 w <| 
  Calls prog 81 #[t_7] w (Ret fun t_10 w => stay prog none m_6 t_5 w <| 
  pvv prog (Instr.build 88 #[(0, t_9), (1, t_10)]) w fun t_11 w =>
  efv prog (Instr.box 88 t_11) w fun t_12 w => stay prog none m_8 t_7 w <| stay prog none m_6 t_5 w <| 
  dr w fun w =>
  pv prog (oNil t_12) w fun t_13 w =>
  pvv prog (Instr.fieldAt 88 t_13 2) w fun t_14 w =>
  pv prog (oNil d_p0) w fun t_15 w =>
  pvv prog (Instr.fieldAt 88 t_15 2) w fun t_16 w =>
  Calls prog 48 #[t_16] w (Ret fun t_17 w =>
  Calls prog 82 #[t_14, t_17] w (Ret fun t_18 w =>
  K t_12 w))))
theorem B47_eq (d_p0 : Value) (w : World) (K : Value → World → Prop) : denFn prog Tryz.f47 T47 [d_p0] w K = B47 d_p0 w K := by kernel_rfl
theorem c47 {d_p0 : Value} {w : World} {K : Value → World → Prop} (h : B47 d_p0 w K) : Calls prog 47 #[d_p0] w (Ret K) :=
  denFn_calls Tryz.func47 T47_ok (Eq.mpr (B47_eq d_p0 w K) h)

-- 15 holdfast/holdfastref01.SameAll
def T15 : Ann := (.seq .none (.seq (.seq .none (.seq (.seq .none .none) .none)) (.seq (.seq .none (.block (.loop 134215728 [5] (.seq (.seq .none (.seq .none .none)) (.seq (.block (.seq (.draw [.op 0 .pure, .op 1 .pure, .op 2 .pure, .op 4 .pure, .op 5 .pure, .op 6 .pure, .op 3 .load, .op 7 .load, .op 8 .eff, .op 9 .pure]) (.seq (.seq .none .none) .none))) .none))))) (.seq .none .none))))
theorem T15_ok : chkFn prog Tryz.f15 T15 = true := by kernel_rfl
def B15 (a_p0 b_p1 : Value) (w : World) (K : Value → World → Prop) : Prop :=
  pv prog (oBi .len #[32] 3 #[false] #[a_p0]) w fun t_0 w =>
  pv prog (oBi .len #[32] 3 #[false] #[b_p1]) w fun t_1 w =>
  pvv prog (oEq .neq 3 (.tmp 7) (.tmp 9) t_0 t_1) w fun t_2 w =>
  cd t_2 (
    K (.bool false) w) <|
  lp (fun σ w again_4 => pop σ fun i_3 σ => fin σ <|
    pv prog (oBi .len #[32] 3 #[false] #[a_p0]) w fun t_5 w =>
    pvv prog (binOp .lss 3 i_3 t_5) w fun t_6 w =>
    cd t_6 (
      dr w fun w =>
      pvv prog (Instr.indexAt 32 a_p0 i_3) w fun t_7 w =>
      pvv prog (Instr.indexAt 32 b_p1 i_3) w fun t_8 w =>
      bindS (vN (Instr.loadAt 60 t_7)) fun m_10 => ldv prog (Instr.loadAt 60 t_7) w fun t_9 w =>
      bindS (vN (Instr.loadAt 60 t_8)) fun m_12 => ldv prog (Instr.loadAt 60 t_8) w fun t_11 w =>
      Calls prog 39 #[t_9, t_11] w (Ret fun t_13 w =>
      pvv prog (Op.unary .not t_13) w fun t_14 w =>
      cd t_14 (
        K (.bool false) w) <|
      pvv prog (binOp .add 3 i_3 (.int .i64 1)) w fun t_15 w =>
      again_4 [t_15] w)) <|
    K (.bool true) w) [(.int .i64 0)] w
theorem B15_eq (a_p0 b_p1 : Value) (w : World) (K : Value → World → Prop) : denFn prog Tryz.f15 T15 [a_p0, b_p1] w K = B15 a_p0 b_p1 w K := by kernel_rfl
theorem c15 {a_p0 b_p1 : Value} {w : World} {K : Value → World → Prop} (h : B15 a_p0 b_p1 w K) : Calls prog 15 #[a_p0, b_p1] w (Ret K) :=
  denFn_calls Tryz.func15 T15_ok (Eq.mpr (B15_eq a_p0 b_p1 w K) h)

-- 56 slices.EqualFunc[[][]byte,[][]byte,[]byte,[]byte]
def T56 : Ann := (.seq .none (.seq (.seq .none (.seq (.seq .none .none) .none)) (.seq (.seq .none (.block (.loop 4294837184 [17] (.seq .none (.seq (.seq .none .none) (.seq (.block (.seq .none (.seq .none (.seq .none (.seq (.seq .none .none) .none))))) .none)))))) (.seq .none .none))))
theorem T56_ok : chkFn prog Tryz.f56 T56 = true := by kernel_rfl
def B56 (s1_p0 s2_p1 eq_p2 : Value) (w : World) (K : Value → World → Prop) : Prop :=
  pv prog (oBi .len #[32] 3 #[false] #[s1_p0]) w fun t_0 w =>
  pv prog (oBi .len #[32] 3 #[false] #[s2_p1]) w fun t_1 w =>
  pvv prog (oEq .neq 3 (.tmp 11) (.tmp 13) t_0 t_1) w fun t_2 w =>
  cd t_2 (
    K (.bool false) w) <|
  pv prog (oBi .len #[32] 3 #[false] #[s1_p0]) w fun t_3 w =>
  lp (fun σ w again_5 => pop σ fun t_4 σ => fin σ <|
    pvv prog (binOp .lss 3 t_4 t_3) w fun t_6 w =>
    cd t_6 (
      pvv prog (Instr.indexAt 32 s1_p0 t_4) w fun t_7 w =>
      ldv prog (Instr.loadAt 60 t_7) w fun t_8 w =>
      pvv prog (Instr.indexAt 32 s2_p1 t_4) w fun t_9 w =>
      ldv prog (Instr.loadAt 60 t_9) w fun t_10 w =>
      ef prog (oCall eq_p2 #[t_8, t_10]) w fun t_11 w =>
      pvv prog (Op.unary .not t_11) w fun t_12 w =>
      cd t_12 (
        K (.bool false) w) <|
      pvv prog (binOp .add 3 t_4 (.int .i64 1)) w fun t_13 w =>
      again_5 [t_13] w) <|
    K (.bool true) w) [(.int .i64 0)] w
theorem B56_eq (s1_p0 s2_p1 eq_p2 : Value) (w : World) (K : Value → World → Prop) : denFn prog Tryz.f56 T56 [s1_p0, s2_p1, eq_p2] w K = B56 s1_p0 s2_p1 eq_p2 w K := by kernel_rfl
theorem c56 {s1_p0 s2_p1 eq_p2 : Value} {w : World} {K : Value → World → Prop} (h : B56 s1_p0 s2_p1 eq_p2 w K) : Calls prog 56 #[s1_p0, s2_p1, eq_p2] w (Ret K) :=
  denFn_calls Tryz.func56 T56_ok (Eq.mpr (B56_eq s1_p0 s2_p1 eq_p2 w K) h)

-- 10 holdfast/holdfastlaw03.all
def T10 : Ann := (.seq .none (.seq .none (.seq (.seq .none (.block (.loop 134217720 [3, 4] (.seq (.seq .none (.seq .none .none)) (.seq (.block (.seq .none .none)) .none))))) (.seq .none .none))))
theorem T10_ok : chkFn prog Tryz.f10 T10 = true := by kernel_rfl
def B10 (l_p0 : Value) (w : World) (K : Value → World → Prop) : Prop :=
  lp (fun σ w again_2 => pop σ fun out_0 σ => pop σ fun n_1 σ => fin σ <|
    Calls prog 33 #[l_p0] w (Ret fun t_3 w =>
    pvv prog (binOp .lss 3 n_1 t_3) w fun t_4 w =>
    gate (some (t_4, true)) (fun K => K n_1 w) w fun t_5 w =>
    gate (some (t_4, true)) (fun K => pvv prog (binOp .lss 3 t_5 (.int .i64 100)) w K) w fun t_6 w =>
    pv prog (oPick t_4 t_6 (.bool false)) w fun t_7 w =>
    cd t_7 (
      Calls prog 30 #[l_p0, n_1] w (Ret fun t_8 w =>
      pvv prog (Instr.extract t_8 0) w fun t_9 w =>
      pvv prog (Instr.extract t_8 1) w fun t_10 w =>
      efv prog (Instr.buildSlice 32 1 #[(0, t_9)]) w fun t_11 w =>
      ef prog (oBi .append #[32, 32] 32 #[false, false] #[out_0, t_11]) w fun t_12 w =>
      pvv prog (binOp .add 3 n_1 (.int .i64 1)) w fun t_13 w =>
      again_2 [t_12, t_13] w)) <|
    K out_0 w)) [(.slice none 0 0), (.int .i64 0)] w
theorem B10_eq (l_p0 : Value) (w : World) (K : Value → World → Prop) : denFn prog Tryz.f10 T10 [l_p0] w K = B10 l_p0 w K := by kernel_rfl
theorem c10 {l_p0 : Value} {w : World} {K : Value → World → Prop} (h : B10 l_p0 w K) : Calls prog 10 #[l_p0] w (Ret K) :=
  denFn_calls Tryz.func10 T10_ok (Eq.mpr (B10_eq l_p0 w K) h)

-- 41 holdfast/block.Load
def T41 : Ann := (.seq .none (.seq (.block (.seq .none (.seq (.seq .none .none) (.seq .none (.seq (.seq .none .none) .none))))) (.seq .none .none)))
theorem T41_ok : chkFn prog Tryz.f41 T41 = true := by kernel_rfl
def B41 (image_p0 : Value) (w : World) (K : Value → World → Prop) : Prop :=
  pv prog (oBi .len #[32] 3 #[false] #[image_p0]) w fun t_0 w =>
  pvv prog (binOp .lss 3 t_0 (.int .i64 1)) w fun t_1 w =>
  gate (some (t_1, false)) (fun K => K image_p0 w) w fun t_2 w =>
  gate (some (t_1, false)) (fun K => pv prog (oBi .len #[32] 3 #[false] #[t_2]) w K) w fun t_3 w =>
  gate (some (t_1, false)) (fun K => pvv prog (binOp .gtr 3 t_3 (.int .i64 1024)) w K) w fun t_4 w =>
  pv prog (oPick t_1 (.bool true) t_4) w fun t_5 w =>
  cd t_5 (
    K (.tuple #[(.pointer none), (.int .i64 2)]) w) <|
  Calls prog 76 #[image_p0, (.func (.func 77) #[] #[])] w (Ret fun t_6 w =>
  cd t_6 (
    K (.tuple #[(.pointer none), (.int .i64 3)]) w) <|
  Calls prog 49 #[image_p0] w (Ret fun t_7 w =>
  pvv prog (Instr.build 88 #[(0, t_7)]) w fun t_8 w =>
  efv prog (Instr.box 88 t_8) w fun t_9 w =>
  K (.tuple #[t_9, (.int .i64 0)]) w))
theorem B41_eq (image_p0 : Value) (w : World) (K : Value → World → Prop) : denFn prog Tryz.f41 T41 [image_p0] w K = B41 image_p0 w K := by kernel_rfl
theorem c41 {image_p0 : Value} {w : World} {K : Value → World → Prop} (h : B41 image_p0 w K) : Calls prog 41 #[image_p0] w (Ret K) :=
  denFn_calls Tryz.func41 T41_ok (Eq.mpr (B41_eq image_p0 w K) h)

-- 113 slices.medianOrdered[int]
def T113 : Ann := (.seq .none (.seq .none (.seq .none (.seq .none (.seq .none .none)))))
theorem T113_ok : chkFn prog Tryz.f113 T113 = true := by kernel_rfl
def B113 (data_p0 a_p1 b_p2 c_p3 swaps_p4 : Value) (w : World) (K : Value → World → Prop) : Prop :=
  Calls prog 115 #[data_p0, a_p1, b_p2, swaps_p4] w (Ret fun t_0 w =>
  pvv prog (Instr.extract t_0 0) w fun t_1 w =>
  pvv prog (Instr.extract t_0 1) w fun t_2 w =>
  Calls prog 115 #[data_p0, t_2, c_p3, swaps_p4] w (Ret fun t_3 w =>
  pvv prog (Instr.extract t_3 0) w fun t_4 w =>
  pvv prog (Instr.extract t_3 1) w fun t_5 w =>
  Calls prog 115 #[data_p0, t_1, t_4, swaps_p4] w (Ret fun t_6 w =>
  pvv prog (Instr.extract t_6 0) w fun t_7 w =>
  pvv prog (Instr.extract t_6 1) w fun t_8 w =>
  K t_8 w)))
theorem B113_eq (data_p0 a_p1 b_p2 c_p3 swaps_p4 : Value) (w : World) (K : Value → World → Prop) : denFn prog Tryz.f113 T113 [data_p0, a_p1, b_p2, c_p3, swaps_p4] w K = B113 data_p0 a_p1 b_p2 c_p3 swaps_p4 w K := by kernel_rfl
theorem c113 {data_p0 a_p1 b_p2 c_p3 swaps_p4 : Value} {w : World} {K : Value → World → Prop} (h : B113 data_p0 a_p1 b_p2 c_p3 swaps_p4 w K) : Calls prog 113 #[data_p0, a_p1, b_p2, c_p3, swaps_p4] w (Ret K) :=
  denFn_calls Tryz.func113 T113_ok (Eq.mpr (B113_eq data_p0 a_p1 b_p2 c_p3 swaps_p4 w K) h)

-- 62 holdfast/holdfastref03.zeros
def T62 : Ann := (.seq .none (.seq (.seq .none (.block (.loop 262064 [5] (.seq (.seq .none (.seq .none .none)) (.seq (.block (.seq .none (.seq (.seq .none .none) .none))) .none))))) (.seq .none .none)))
theorem T62_ok : chkFn prog Tryz.f62 T62 = true := by kernel_rfl
def B62 (b_p0 at_p1 : Value) (w : World) (K : Value → World → Prop) : Prop :=
  lp (fun σ w again_1 => pop σ fun i_0 σ => fin σ <|
    pv prog (oBi .len #[60] 3 #[false] #[b_p0]) w fun t_2 w =>
    pvv prog (binOp .lss 3 i_0 t_2) w fun t_3 w =>
    cd t_3 (
      pvv prog (Instr.indexAt 60 b_p0 i_0) w fun t_4 w =>
      ldv prog (Instr.loadAt 5 t_4) w fun t_5 w =>
      pvv prog (oEq .neq 5 (.tmp 16) (.const (.int .u8 0)) t_5 (.int .u8 0)) w fun t_6 w =>
      cd t_6 (
        K (.bool false) w) <|
      pvv prog (binOp .add 3 i_0 (.int .i64 1)) w fun t_7 w =>
      again_1 [t_7] w) <|
    K (.bool true) w) [at_p1] w
theorem B62_eq (b_p0 at_p1 : Value) (w : World) (K : Value → World → Prop) : denFn prog Tryz.f62 T62 [b_p0, at_p1] w K = B62 b_p0 at_p1 w K := by kernel_rfl
theorem c62 {b_p0 at_p1 : Value} {w : World} {K : Value → World → Prop} (h : B62 b_p0 at_p1 w K) : Calls prog 62 #[b_p0, at_p1] w (Ret K) :=
  denFn_calls Tryz.func62 T62_ok (Eq.mpr (B62_eq b_p0 at_p1 w K) h)

-- 75 maps.Keys[map[int]int,int,int]$1
def T75 : Ann := (.seq .none (.block (.loop 16328 [] (.seq .none (.seq (.seq .none .none) (.block (.seq .none (.seq .none (.seq .none .none)))))))))
theorem T75_ok : chkFn prog Tryz.f75 T75 = true := by kernel_rfl
def B75 (yield_p0 x_p1 : Value) (w : World) (K : Value → World → Prop) : Prop :=
  ldv prog (Instr.loadAt 68 x_p1) w fun t_0 w =>
  efv prog (Instr.range 68 t_0) w fun t_1 w =>
  lp (fun σ w again_2 => fin σ <|
    efv prog (Instr.next t_1 false 0) w fun t_3 w =>
    pvv prog (Instr.extract t_3 0) w fun t_4 w =>
    cd t_4 (
      efv prog (Instr.entry t_1) w fun t_5 w =>
      pvv prog (Instr.extract t_5 0) w fun t_6 w =>
      ef prog (oCall yield_p0 #[t_6]) w fun t_7 w =>
      pvv prog (Op.unary .not t_7) w fun t_8 w =>
      cd t_8 (
        K (.tuple #[]) w) <|
      again_2 [] w) <|
    K (.tuple #[]) w) [] w
theorem B75_eq (yield_p0 x_p1 : Value) (w : World) (K : Value → World → Prop) : denFn prog Tryz.f75 T75 [yield_p0, x_p1] w K = B75 yield_p0 x_p1 w K := by kernel_rfl
theorem c75 {yield_p0 x_p1 : Value} {w : World} {K : Value → World → Prop} (h : B75 yield_p0 x_p1 w K) : Calls prog 75 #[yield_p0, x_p1] w (Ret K) :=
  denFn_calls Tryz.func75 T75_ok (Eq.mpr (B75_eq yield_p0 x_p1 w K) h)

-- 45 holdfast/wal.two
def T45 : Ann := (.seq .none (.seq (.draw [.op 0 .pure, .op 1 .pure, .op 5 .pure, .op 6 .pure, .op 2 .load, .op 3 .pure, .op 4 .pure, .op 7 .load, .op 8 .pure, .op 9 .pure, .op 10 .pure]) .none))
theorem T45_ok : chkFn prog Tryz.f45 T45 = true := by kernel_rfl
def B45 (b_p0 : Value) (w : World) (K : Value → World → Prop) : Prop :=
  dr w fun w =>
  pvv prog (Instr.indexAt 60 b_p0 (.int .i64 0)) w fun t_0 w =>
  pvv prog (Instr.indexAt 60 b_p0 (.int .i64 1)) w fun t_1 w =>
  bindS (vN (Instr.loadAt 5 t_0)) fun m_3 => ldv prog (Instr.loadAt 5 t_0) w fun t_2 w =>
  pvv prog (convert 5 3 t_2) w fun t_4 w =>
  pvv prog (binOp .shl 3 t_4 (.int .u64 8)) w fun t_5 w =>
  bindS (vN (Instr.loadAt 5 t_1)) fun m_7 => ldv prog (Instr.loadAt 5 t_1) w fun t_6 w =>
  pvv prog (convert 5 3 t_6) w fun t_8 w =>
  pvv prog (binOp .or 3 t_5 t_8) w fun t_9 w =>
  K t_9 w
theorem B45_eq (b_p0 : Value) (w : World) (K : Value → World → Prop) : denFn prog Tryz.f45 T45 [b_p0] w K = B45 b_p0 w K := by kernel_rfl
theorem c45 {b_p0 : Value} {w : World} {K : Value → World → Prop} (h : B45 b_p0 w K) : Calls prog 45 #[b_p0] w (Ret K) :=
  denFn_calls Tryz.func45 T45_ok (Eq.mpr (B45_eq b_p0 w K) h)

-- 24 holdfast/wal.Need
def T24 : Ann := (.seq .none (.seq (.seq .none (.seq (.seq .none .none) .none)) (.seq .none .none)))
theorem T24_ok : chkFn prog Tryz.f24 T24 = true := by kernel_rfl
def B24 (pages_p0 : Value) (w : World) (K : Value → World → Prop) : Prop :=
  pvv prog (binOp .lss 3 pages_p0 (.int .i64 1)) w fun t_0 w =>
  gate (some (t_0, false)) (fun K => K pages_p0 w) w fun t_1 w =>
  gate (some (t_0, false)) (fun K => pvv prog (binOp .gtr 3 t_1 (.int .i64 100)) w K) w fun t_2 w =>
  pv prog (oPick t_0 (.bool true) t_2) w fun t_3 w =>
  cd t_3 (
    K (.int .i64 0) w) <|
  pvv prog (binOp .add 3 pages_p0 (.int .i64 1)) w fun t_4 w =>
  K t_4 w
theorem B24_eq (pages_p0 : Value) (w : World) (K : Value → World → Prop) : denFn prog Tryz.f24 T24 [pages_p0] w K = B24 pages_p0 w K := by kernel_rfl
theorem c24 {pages_p0 : Value} {w : World} {K : Value → World → Prop} (h : B24 pages_p0 w K) : Calls prog 24 #[pages_p0] w (Ret K) :=
  denFn_calls Tryz.func24 T24_ok (Eq.mpr (B24_eq pages_p0 w K) h)

-- 40 (*holdfast/block.Disk).Blocks
def T40 : Ann := (.seq .none (.seq (.seq .none (.seq (.seq .none .none) .none)) (.seq .none .none)))
theorem T40_ok : chkFn prog Tryz.f40 T40 = true := by kernel_rfl
def B40 (d_p0 : Value) (w : World) (K : Value → World → Prop) : Prop :=
  pvv prog (oEq .eql 42 (.tmp 3) (.const (.pointer none)) d_p0 (.pointer none)) w fun t_0 w =>
  cd t_0 (
    K (.int .i64 0) w) <|
  pv prog (oNil d_p0) w fun t_1 w =>
  pvv prog (Instr.fieldAt 88 t_1 0) w fun t_2 w =>
  ldv prog (Instr.loadAt 32 t_2) w fun t_3 w =>
  pv prog (oBi .len #[32] 3 #[false] #[t_3]) w fun t_4 w =>
  K t_4 w
theorem B40_eq (d_p0 : Value) (w : World) (K : Value → World → Prop) : denFn prog Tryz.f40 T40 [d_p0] w K = B40 d_p0 w K := by kernel_rfl
theorem c40 {d_p0 : Value} {w : World} {K : Value → World → Prop} (h : B40 d_p0 w K) : Calls prog 40 #[d_p0] w (Ret K) :=
  denFn_calls Tryz.func40 T40_ok (Eq.mpr (B40_eq d_p0 w K) h)

-- 112 slices.medianAdjacentOrdered[int]
def T112 : Ann := (.seq .none (.seq .none .none))
theorem T112_ok : chkFn prog Tryz.f112 T112 = true := by kernel_rfl
def B112 (data_p0 a_p1 swaps_p2 : Value) (w : World) (K : Value → World → Prop) : Prop :=
  pvv prog (binOp .sub 3 a_p1 (.int .i64 1)) w fun t_0 w =>
  pvv prog (binOp .add 3 a_p1 (.int .i64 1)) w fun t_1 w =>
  Calls prog 113 #[data_p0, t_0, a_p1, t_1, swaps_p2] w (Ret fun t_2 w =>
  K t_2 w)
theorem B112_eq (data_p0 a_p1 swaps_p2 : Value) (w : World) (K : Value → World → Prop) : denFn prog Tryz.f112 T112 [data_p0, a_p1, swaps_p2] w K = B112 data_p0 a_p1 swaps_p2 w K := by kernel_rfl
theorem c112 {data_p0 a_p1 swaps_p2 : Value} {w : World} {K : Value → World → Prop} (h : B112 data_p0 a_p1 swaps_p2 w K) : Calls prog 112 #[data_p0, a_p1, swaps_p2] w (Ret K) :=
  denFn_calls Tryz.func112 T112_ok (Eq.mpr (B112_eq data_p0 a_p1 swaps_p2 w K) h)

-- 51 bytes.Clone
def T51 : Ann := (.seq .none (.seq (.seq .none (.seq (.seq .none .none) .none)) (.seq .none .none)))
theorem T51_ok : chkFn prog Tryz.f51 T51 = true := by kernel_rfl
def B51 (b_p0 : Value) (w : World) (K : Value → World → Prop) : Prop :=
  pvv prog (oEq .eql 60 (.tmp 3) (.const (.slice none 0 0)) b_p0 (.slice none 0 0)) w fun t_0 w =>
  cd t_0 (
    K (.slice none 0 0) w) <|
  efv prog (Instr.buildSlice 60 0 #[]) w fun t_1 w =>
  ef prog (oBi .append #[60, 60] 60 #[false, false] #[t_1, b_p0]) w fun t_2 w =>
  K t_2 w
theorem B51_eq (b_p0 : Value) (w : World) (K : Value → World → Prop) : denFn prog Tryz.f51 T51 [b_p0] w K = B51 b_p0 w K := by kernel_rfl
theorem c51 {b_p0 : Value} {w : World} {K : Value → World → Prop} (h : B51 b_p0 w K) : Calls prog 51 #[b_p0] w (Ret K) :=
  denFn_calls Tryz.func51 T51_ok (Eq.mpr (B51_eq b_p0 w K) h)

-- 110 slices.nextPowerOfTwo
def T110 : Ann := (.seq .none (.seq .none .none))
theorem T110_ok : chkFn prog Tryz.f110 T110 = true := by kernel_rfl
def B110 (length_p0 : Value) (w : World) (K : Value → World → Prop) : Prop :=
  pvv prog (convert 3 111 length_p0) w fun t_0 w =>
  Calls prog 94 #[t_0] w (Ret fun t_1 w =>
  pvv prog (binOp .shl 111 (.int .u64 1) t_1) w fun t_2 w =>
  K t_2 w)
theorem B110_eq (length_p0 : Value) (w : World) (K : Value → World → Prop) : denFn prog Tryz.f110 T110 [length_p0] w K = B110 length_p0 w K := by kernel_rfl
theorem c110 {length_p0 : Value} {w : World} {K : Value → World → Prop} (h : B110 length_p0 w K) : Calls prog 110 #[length_p0] w (Ret K) :=
  denFn_calls Tryz.func110 T110_ok (Eq.mpr (B110_eq length_p0 w K) h)

-- 52 slices.ContainsFunc[[]holdfast/api.Page,holdfast/api.Page]
def T52 : Ann := (.seq .none (.seq .none .none))
theorem T52_ok : chkFn prog Tryz.f52 T52 = true := by kernel_rfl
def B52 (s_p0 f_p1 : Value) (w : World) (K : Value → World → Prop) : Prop :=
  Calls prog 85 #[s_p0, f_p1] w (Ret fun t_0 w =>
  pvv prog (binOp .geq 3 t_0 (.int .i64 0)) w fun t_1 w =>
  K t_1 w)
theorem B52_eq (s_p0 f_p1 : Value) (w : World) (K : Value → World → Prop) : denFn prog Tryz.f52 T52 [s_p0, f_p1] w K = B52 s_p0 f_p1 w K := by kernel_rfl
theorem c52 {s_p0 f_p1 : Value} {w : World} {K : Value → World → Prop} (h : B52 s_p0 f_p1 w K) : Calls prog 52 #[s_p0, f_p1] w (Ret K) :=
  denFn_calls Tryz.func52 T52_ok (Eq.mpr (B52_eq s_p0 f_p1 w K) h)

-- 48 (*sync/atomic.Int64).Load
def T48 : Ann := (.seq .none (.seq .none .none))
theorem T48_ok : chkFn prog Tryz.f48 T48 = true := by kernel_rfl
def B48 (x_p0 : Value) (w : World) (K : Value → World → Prop) : Prop :=
  pv prog (oNil x_p0) w fun t_0 w =>
  pvv prog (Instr.fieldAt 86 t_0 2) w fun t_1 w =>
  ef prog (oCall (.func (.func 83) #[] #[]) #[t_1]) w fun t_2 w =>
  K t_2 w
theorem B48_eq (x_p0 : Value) (w : World) (K : Value → World → Prop) : denFn prog Tryz.f48 T48 [x_p0] w K = B48 x_p0 w K := by kernel_rfl
theorem c48 {x_p0 : Value} {w : World} {K : Value → World → Prop} (h : B48 x_p0 w K) : Calls prog 48 #[x_p0] w (Ret K) :=
  denFn_calls Tryz.func48 T48_ok (Eq.mpr (B48_eq x_p0 w K) h)

-- 55 maps.Keys[map[int][]byte,int,[]byte]
def T55 : Ann := (.seq .none (.seq .none .none))
theorem T55_ok : chkFn prog Tryz.f55 T55 = true := by kernel_rfl
def B55 (m_p0 : Value) (w : World) (K : Value → World → Prop) : Prop :=
  efv prog (Instr.box 99 m_p0) w fun m_0 w =>
  pvv prog (Instr.makeFunc (.func 86) #[] #[m_0]) w fun t_1 w =>
  K t_1 w
theorem B55_eq (m_p0 : Value) (w : World) (K : Value → World → Prop) : denFn prog Tryz.f55 T55 [m_p0] w K = B55 m_p0 w K := by kernel_rfl
theorem c55 {m_p0 : Value} {w : World} {K : Value → World → Prop} (h : B55 m_p0 w K) : Calls prog 55 #[m_p0] w (Ret K) :=
  denFn_calls Tryz.func55 T55_ok (Eq.mpr (B55_eq m_p0 w K) h)

-- 114 cmp.isNaN[int]
def T114 : Ann := (.seq .none (.seq .none .none))
theorem T114_ok : chkFn prog Tryz.f114 T114 = true := by kernel_rfl
def B114 (x_p0 : Value) (w : World) (K : Value → World → Prop) : Prop :=
  pvv prog (oEq .neq 3 (.tmp 3) (.tmp 4) x_p0 x_p0) w fun t_0 w =>
  K t_0 w
theorem B114_eq (x_p0 : Value) (w : World) (K : Value → World → Prop) : denFn prog Tryz.f114 T114 [x_p0] w K = B114 x_p0 w K := by kernel_rfl
theorem c114 {x_p0 : Value} {w : World} {K : Value → World → Prop} (h : B114 x_p0 w K) : Calls prog 114 #[x_p0] w (Ret K) :=
  denFn_calls Tryz.func114 T114_ok (Eq.mpr (B114_eq x_p0 w K) h)


end Go.Proofs.YtgkeplodfkmnlaaGreat
