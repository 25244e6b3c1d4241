import Derived.Test.YtgkeplodfkmnlaaPI
set_option linter.all false
set_option maxRecDepth 100000
namespace Go.Proofs.Ytgkeplodfkmnlaa
open Go Hold
-- 10 (*holdfast/wal.Log).Commit
def T10 : Ann := (.seq .none (.seq (.block (.seq .none (.seq (.seq .none .none) (.seq .none (.seq (.seq .none .none) (.seq .none (.seq (.seq .none .none) (.seq .none (.seq (.seq .none .none) .none))))))))) (.seq .none (.seq (.seq .none (.block (.loop 18014389919547536 [33] (.seq .none (.seq (.seq .none .none) (.seq (.block (.seq .none (.seq (.seq .none (.seq (.seq .none .none) .none)) .none))) .none)))))) (.seq (.seq (.draw [.op 0 .pure, .op 1 .pure, .op 3 .load, .op 4 .pure, .op 5 .pure, .op 6 .load, .op 7 .load, .op 8 .pure, .op 9 .pure, .op 10 .load, .op 11 .pure, .op 2 .eff, .op 12 .pure]) (.seq (.seq .none .none) .none)) (.seq .none (.seq .none (.seq .none (.seq (.seq .none (.block (.loop 19806738397111180741092314112 [78] (.seq .none (.seq (.seq .none .none) (.seq (.block (.seq .none .none)) .none)))))) (.seq .none (.seq .none (.seq (.seq .none (.block (.loop 174224571214483385976394345438753283137536 [109] (.seq .none (.seq (.seq .none .none) (.seq (.block (.seq .none (.seq (.draw [.op 5 .pure, .op 6 .pure, .op 7 .pure, .op 8 .pure, .op 9 .pure, .op 10 .pure, .op 0 .load, .op 1 .pure, .op 2 .pure, .op 3 .pure, .op 4 .load, .op 11 .load, .op 12 .eff]) .none))) .none)))))) (.seq (.draw [.op 4 .pure, .op 5 .pure, .op 0 .load, .op 1 .pure, .op 2 .pure, .op 3 .load, .op 6 .eff, .op 7 .pure, .op 8 .pure, .op 9 .pure, .op 10 .eff]) (.seq .none (.seq .none (.seq .none .none))))))))))))))))
theorem T10_ok : chkFn prog Try.f10 T10 = true := by kernel_rfl
def B10 (l_p0 pages_p1 : Value) (w : World) (K : Value → World → Prop) : Prop :=
  efv prog (Instr.box 23 l_p0) w fun l_0 w =>
  ldv prog (Instr.loadAt 23 l_0) w fun t_1 w =>
  pvv prog (oEq .eql 23 (.tmp 16) (.const (.pointer none)) t_1 (.pointer none)) w fun t_2 w =>
  cd t_2 (
    K (.int .i64 1) w) <|
  pv prog (oBi .len #[28] 3 #[false] #[pages_p1]) w fun t_3 w =>
  pvv prog (oEq .eql 3 (.tmp 20) (.const (.int .i64 0)) t_3 (.int .i64 0)) w fun t_4 w =>
  cd t_4 (
    K (.int .i64 0) w) <|
  pv prog (oBi .len #[28] 3 #[false] #[pages_p1]) w fun t_5 w =>
  pvv prog (binOp .gtr 3 t_5 (.int .i64 100)) w fun t_6 w =>
  cd t_6 (
    K (.int .i64 6) w) <|
  pvv prog (Instr.makeFunc (.func 33) #[] #[l_0]) w fun t_7 w =>
  Calls prog 32 #[pages_p1, t_7] w (Ret fun t_8 w =>
  cd t_8 (
    K (.int .i64 2) w) <|
  efv prog (Instr.makeMap 66 none) w fun t_9 w =>
  pv prog (oBi .len #[28] 3 #[false] #[pages_p1]) w fun t_10 w =>
  lp (fun σ w again_12 => pop σ fun t_11 σ => fin σ <|
    pvv prog (binOp .lss 3 t_11 t_10) w fun t_13 w =>
    cd t_13 (
      pvv prog (Instr.indexAt 28 pages_p1 t_11) w fun t_14 w =>
      ldv prog (Instr.loadAt 35 t_14) w fun t_15 w =>
      efv prog (Instr.alloc 35 true (.tuple #[])) w fun p_16 w =>
      efu prog (Instr.storeAt 35 p_16 t_15) w fun u_17 w =>
      pvv prog (Instr.fieldAt 35 p_16 0) w fun t_18 w =>
      ldv prog (Instr.loadAt 3 t_18) w fun t_19 w =>
      ldv prog (Instr.lookup 66 t_9 t_19 false) w fun t_20 w =>
      pvv prog (oEq .neq 33 (.tmp 40) (.const (.slice none 0 0)) t_20 (.slice none 0 0)) w fun t_21 w =>
      gate (some (t_21, false)) (fun K => pvv prog (Instr.fieldAt 35 p_16 1) w K) w fun t_22 w =>
      gate (some (t_21, false)) (fun K => ldv prog (Instr.loadAt 33 t_22) w K) w fun t_23 w =>
      gate (some (t_21, false)) (fun K => pv prog (oBi .len #[33] 3 #[false] #[t_23]) w K) w fun t_24 w =>
      gate (some (t_21, false)) (fun K => pvv prog (oEq .neq 3 (.tmp 45) (.const (.int .i64 256)) t_24 (.int .i64 256)) w K) w fun t_25 w =>
      pv prog (oPick t_21 (.bool true) t_25) w fun t_26 w =>
      cd t_26 (
        K (.int .i64 3) w) <|
      pvv prog (Instr.fieldAt 35 p_16 0) w fun t_27 w =>
      ldv prog (Instr.loadAt 3 t_27) w fun t_28 w =>
      pvv prog (Instr.fieldAt 35 p_16 1) w fun t_29 w =>
      ldv prog (Instr.loadAt 33 t_29) w fun t_30 w =>
      efu prog (Instr.mapUpdate 66 t_9 t_28 t_30) w fun u_31 w =>
      pvv prog (binOp .add 3 t_11 (.int .i64 1)) w fun t_32 w =>
      again_12 [t_32] w) <|
    dr w fun w =>
    pv prog (oBi .len #[28] 3 #[false] #[pages_p1]) w fun t_33 w =>
    bindS (vN (Instr.loadAt 23 l_0)) fun m_35 => ldv prog (Instr.loadAt 23 l_0) w fun t_34 w =>
    pv prog (oNil t_34) w fun t_36 w =>
    pvv prog (Instr.fieldAt 71 t_36 1) w fun t_37 w =>
    bindS (vN (Instr.loadAt 3 t_37)) fun m_39 => ldv prog (Instr.loadAt 3 t_37) w fun t_38 w =>
    bindS (vN (Instr.loadAt 23 l_0)) fun m_41 => ldv prog (Instr.loadAt 23 l_0) w fun t_40 w =>
    pv prog (oNil t_40) w fun t_42 w =>
    pvv prog (Instr.fieldAt 71 t_42 3) w fun t_43 w =>
    bindS (vN (Instr.loadAt 3 t_43)) fun m_45 => ldv prog (Instr.loadAt 3 t_43) w fun t_44 w =>
    pvv prog (binOp .sub 3 t_38 t_44) w fun t_46 w =>
    Calls prog 22 #[t_33] w (Ret fun t_47 w => stay prog none m_45 t_44 w <| stay prog none m_41 t_40 w <| stay prog none m_39 t_38 w <| stay prog none m_35 t_34 w <| 
    pvv prog (binOp .gtr 3 t_47 t_46) w fun t_48 w =>
    cd t_48 (
      K (.int .i64 7) w) <|
    efv prog (Instr.makeSlice 33 (.int .i64 256) (.int .i64 256)) w fun t_49 w =>
    pvv prog (Instr.sliceAt 33 t_49 none (some (.int .i64 2)) none) w fun t_50 w =>
    pv prog (oBi .len #[28] 3 #[false] #[pages_p1]) w fun t_51 w =>
    Calls prog 34 #[t_50, t_51] w (Ret fun t_52 w =>
    Calls prog 36 #[t_9] w (Ret fun t_53 w =>
    Calls prog 35 #[t_53] w (Ret fun t_54 w =>
    pv prog (oBi .len #[29] 3 #[false] #[t_54]) w fun t_55 w =>
    lp (fun σ w again_57 => pop σ fun t_56 σ => fin σ <|
      pvv prog (binOp .lss 3 t_56 t_55) w fun t_58 w =>
      cd t_58 (
        pvv prog (Instr.indexAt 29 t_54 t_56) w fun t_59 w =>
        ldv prog (Instr.loadAt 3 t_59) w fun t_60 w =>
        pvv prog (binOp .mul 3 (.int .i64 2) t_56) w fun t_61 w =>
        pvv prog (binOp .add 3 (.int .i64 2) t_61) w fun t_62 w =>
        pvv prog (binOp .mul 3 (.int .i64 2) t_56) w fun t_63 w =>
        pvv prog (binOp .add 3 (.int .i64 4) t_63) w fun t_64 w =>
        pvv prog (Instr.sliceAt 33 t_49 (some t_62) (some t_64) none) w fun t_65 w =>
        Calls prog 34 #[t_65, t_60] w (Ret fun t_66 w =>
        pvv prog (binOp .add 3 t_56 (.int .i64 1)) w fun t_67 w =>
        again_57 [t_67] w)) <|
      ldv prog (Instr.loadAt 23 l_0) w fun t_68 w =>
      pv prog (oNil t_68) w fun t_69 w =>
      pvv prog (Instr.fieldAt 71 t_69 3) w fun t_70 w =>
      ldv prog (Instr.loadAt 3 t_70) w fun t_71 w =>
      pvv prog (binOp .add 3 t_71 (.int .i64 1)) w fun t_72 w =>
      ldv prog (Instr.loadAt 23 l_0) w fun t_73 w =>
      pv prog (oNil t_73) w fun t_74 w =>
      pvv prog (Instr.fieldAt 71 t_74 0) w fun t_75 w =>
      pvv prog (Instr.fieldAt 68 t_75 0) w fun t_76 w =>
      ldv prog (Instr.loadAt 39 t_76) w fun t_77 w =>
      Calls prog 37 #[t_77, t_72, t_49] w (Ret fun t_78 w =>
      pv prog (oBi .len #[29] 3 #[false] #[t_54]) w fun t_79 w =>
      lp (fun σ w again_81 => pop σ fun t_80 σ => fin σ <|
        pvv prog (binOp .lss 3 t_80 t_79) w fun t_82 w =>
        cd t_82 (
          pvv prog (Instr.indexAt 29 t_54 t_80) w fun t_83 w =>
          ldv prog (Instr.loadAt 3 t_83) w fun t_84 w =>
          dr w fun w =>
          pvv prog (binOp .add 3 t_72 (.int .i64 1)) w fun t_85 w =>
          pvv prog (binOp .add 3 t_85 t_80) w fun t_86 w =>
          bindS (vN (Instr.loadAt 23 l_0)) fun m_88 => ldv prog (Instr.loadAt 23 l_0) w fun t_87 w =>
          pv prog (oNil t_87) w fun t_89 w =>
          pvv prog (Instr.fieldAt 71 t_89 0) w fun t_90 w =>
          pvv prog (Instr.fieldAt 68 t_90 0) w fun t_91 w =>
          bindS (vN (Instr.loadAt 39 t_91)) fun m_93 => ldv prog (Instr.loadAt 39 t_91) w fun t_92 w =>
          bindS (vN (Instr.lookup 66 t_9 t_84 false)) fun m_95 => ldv prog (Instr.lookup 66 t_9 t_84 false) w fun t_94 w =>
          Calls prog 37 #[t_92, t_86, t_94] w (Ret fun t_96 w => stay prog none m_88 t_87 w <| 
          ldv prog (Instr.loadAt 23 l_0) w fun t_97 w =>
          pv prog (oNil t_97) w fun t_98 w =>
          pvv prog (Instr.fieldAt 71 t_98 4) w fun t_99 w =>
          ldv prog (Instr.loadAt 69 t_99) w fun t_100 w =>
          pvv prog (binOp .add 3 t_72 (.int .i64 1)) w fun t_101 w =>
          pvv prog (binOp .add 3 t_101 t_80) w fun t_102 w =>
          efu prog (Instr.mapUpdate 69 t_100 t_84 t_102) w fun u_103 w =>
          pvv prog (binOp .add 3 t_80 (.int .i64 1)) w fun t_104 w =>
          again_81 [t_104] w)) <|
        dr w fun w =>
        pv prog (oBi .len #[28] 3 #[false] #[pages_p1]) w fun t_106 w =>
        bindS (vN (Instr.loadAt 23 l_0)) fun m_108 => ldv prog (Instr.loadAt 23 l_0) w fun t_107 w =>
        pv prog (oNil t_107) w fun t_109 w =>
        pvv prog (Instr.fieldAt 71 t_109 3) w fun t_110 w =>
        bindS (vN (Instr.loadAt 3 t_110)) fun m_112 => ldv prog (Instr.loadAt 3 t_110) w fun t_111 w =>
        Calls prog 22 #[t_106] w (Ret fun t_113 w => stay prog none m_112 t_111 w <| stay prog none m_108 t_107 w <| 
        pvv prog (binOp .add 3 t_111 t_113) w fun t_114 w =>
        pv prog (oNil t_107) w fun t_115 w =>
        pvv prog (Instr.fieldAt 71 t_115 3) w fun t_116 w =>
        efu prog (Instr.storeAt 3 t_116 t_114) w fun u_117 w =>
        ldv prog (Instr.loadAt 23 l_0) w fun t_118 w =>
        pv prog (oNil t_118) w fun t_119 w =>
        pvv prog (Instr.fieldAt 71 t_119 2) w fun t_120 w =>
        ldv prog (Instr.loadAt 3 t_120) w fun t_121 w =>
        pvv prog (binOp .add 3 t_121 (.int .i64 1)) w fun t_122 w =>
        pv prog (oNil t_118) w fun t_123 w =>
        pvv prog (Instr.fieldAt 71 t_123 2) w fun t_124 w =>
        efu prog (Instr.storeAt 3 t_124 t_122) w fun u_125 w =>
        ldv prog (Instr.loadAt 23 l_0) w fun t_126 w =>
        Calls prog 38 #[t_126] w (Ret fun t_127 w =>
        K (.int .i64 0) w))) [(.int .i64 0)] w)) [(.int .i64 0)] w))))) [(.int .i64 0)] w)
theorem B10_eq (l_p0 pages_p1 : Value) (w : World) (K : Value → World → Prop) : denFn prog Try.f10 T10 [l_p0, pages_p1] w K = B10 l_p0 pages_p1 w K := by kernel_rfl
theorem c10 {l_p0 pages_p1 : Value} {w : World} {K : Value → World → Prop} (h : B10 l_p0 pages_p1 w K) : Calls prog 10 #[l_p0, pages_p1] w (Ret K) :=
  denFn_calls Try.func10 T10_ok (Eq.mpr (B10_eq l_p0 pages_p1 w K) h)

-- 85 slices.pdqsortOrdered[int]
def T85 : Ann := (.seq .none (.seq .none (.block (.loop 21778071482940061661655974875633165532942 [1, 2, 3, 8, 9] (.block (.seq .none (.seq (.seq .none (.seq (.seq .none .none) .none)) (.seq (.seq .none (.seq (.seq .none .none) .none)) (.meet 4380866641928 [3] (.seq .none (.seq (.seq .none .none) .none)) (.seq .none (.meet 2305280059260278784 [11, 12] (.seq .none (.seq (.seq .none (.seq .none .none)) .none)) (.meet 9442427122730076733440 [] (.seq .none (.seq (.seq .none (.seq .none .none)) .none)) (.seq (.seq (.draw [.op 0 .pure, .op 1 .pure, .op 2 .pure, .op 3 .pure, .op 4 .pure, .op 5 .pure, .op 6 .pure, .op 8 .pure, .op 9 .pure, .op 10 .pure, .op 7 .load, .op 11 .load, .op 12 .eff, .op 13 .pure, .op 14 .pure]) (.seq (.seq .none (.seq .none .none)) .none)) (.seq .none (.seq .none (.seq .none (.seq .none (.seq .none (.seq (.seq .none (.seq .none .none)) (.seq .none (.seq .none .none)))))))))))))))))))))
theorem T85_ok : chkFn prog Try.f85 T85 = true := by kernel_rfl
def B85 (data_p0 a_p1 b_p2 limit_p3 : Value) (w : World) (K : Value → World → Prop) : Prop :=
  lp (fun σ w again_5 => pop σ fun a_0 σ => pop σ fun b_1 σ => pop σ fun limit_2 σ => pop σ fun wasBalanced_3 σ => pop σ fun wasPartitioned_4 σ => fin σ <|
    pvv prog (binOp .sub 3 b_1 a_0) w fun t_6 w =>
    pvv prog (binOp .leq 3 t_6 (.int .i64 12)) w fun t_7 w =>
    cd t_7 (
      Calls prog 93 #[data_p0, a_0, b_1] w (Ret fun t_8 w =>
      K (.tuple #[]) w)) <|
    pvv prog (oEq .eql 3 (.tmp 28) (.const (.int .i64 0)) limit_2 (.int .i64 0)) w fun t_9 w =>
    cd t_9 (
      Calls prog 94 #[data_p0, a_0, b_1] w (Ret fun t_10 w =>
      K (.tuple #[]) w)) <|
    jn (fun σ w => pop σ fun limit_11 σ => fin σ <|
      Calls prog 96 #[data_p0, a_0, b_1] w (Ret fun t_12 w =>
      pvv prog (Instr.extract t_12 0) w fun t_13 w =>
      pvv prog (Instr.extract t_12 1) w fun t_14 w =>
      jn (fun σ w => pop σ fun pivot_15 σ => pop σ fun hint_16 σ => fin σ <|
        jn (fun σ w => fin σ <|
          dr w fun w =>
          pvv prog (binOp .gtr 3 a_0 (.int .i64 0)) w fun t_17 w =>
          gate (some (t_17, true)) (fun K => K data_p0 w) w fun t_18 w =>
          gate (some (t_17, true)) (fun K => K a_0 w) w fun t_19 w =>
          gate (some (t_17, true)) (fun K => pvv prog (binOp .sub 3 t_19 (.int .i64 1)) w K) w fun t_20 w =>
          gate (some (t_17, true)) (fun K => pvv prog (Instr.indexAt 29 t_18 t_20) w K) w fun t_21 w =>
          gate (some (t_17, true)) (fun K => K data_p0 w) w fun t_22 w =>
          gate (some (t_17, true)) (fun K => K pivot_15 w) w fun t_23 w =>
          gate (some (t_17, true)) (fun K => pvv prog (Instr.indexAt 29 t_22 t_23) w K) w fun t_24 w =>
          bindS (vN (Instr.loadAt 3 t_21)) fun m_26 => gate (some (t_17, true)) (fun K => ldv prog (Instr.loadAt 3 t_21) w K) w fun t_25 w =>
          bindS (vN (Instr.loadAt 3 t_24)) fun m_28 => gate (some (t_17, true)) (fun K => ldv prog (Instr.loadAt 3 t_24) w K) w fun t_27 w =>
          gate (some (t_17, true)) (fun K => Calls prog 99 #[t_25, t_27] w (Ret fun s_46 w => K s_46 w)) w fun t_29 w =>
          gate (some (t_17, true)) (fun K => pvv prog (Op.unary .not t_29) w K) w fun t_30 w =>
          pv prog (oPick t_17 t_30 (.bool false)) w fun t_31 w =>
          cd t_31 (
            Calls prog 100 #[data_p0, a_0, b_1, pivot_15] w (Ret fun t_32 w =>
            again_5 [t_32, b_1, limit_11, wasBalanced_3, wasPartitioned_4] w)) <|
          Calls prog 101 #[data_p0, a_0, b_1, pivot_15] w (Ret fun t_33 w =>
          pvv prog (Instr.extract t_33 0) w fun t_34 w =>
          pvv prog (Instr.extract t_33 1) w fun t_35 w =>
          pvv prog (binOp .sub 3 t_34 a_0) w fun t_36 w =>
          pvv prog (binOp .sub 3 b_1 t_34) w fun t_37 w =>
          pvv prog (binOp .quo 3 t_6 (.int .i64 8)) w fun t_38 w =>
          pvv prog (binOp .lss 3 t_36 t_37) w fun t_39 w =>
          cd t_39 (
            pvv prog (binOp .geq 3 t_36 t_38) w fun t_40 w =>
            Calls prog 85 #[data_p0, a_0, t_34, limit_11] w (Ret fun t_41 w =>
            pvv prog (binOp .add 3 t_34 (.int .i64 1)) w fun t_42 w =>
            again_5 [t_42, b_1, limit_11, t_40, t_35] w)) <|
          pvv prog (binOp .geq 3 t_37 t_38) w fun t_43 w =>
          pvv prog (binOp .add 3 t_34 (.int .i64 1)) w fun t_44 w =>
          Calls prog 85 #[data_p0, t_44, b_1, limit_11] w (Ret fun t_45 w =>
          again_5 [a_0, t_34, limit_11, t_43, t_35] w))) fun k_47 =>
        gate (some (wasBalanced_3, true)) (fun K => K wasPartitioned_4 w) w fun t_48 w =>
        pv prog (oPick wasBalanced_3 t_48 (.bool false)) w fun t_49 w =>
        gate (some (t_49, true)) (fun K => K hint_16 w) w fun t_50 w =>
        gate (some (t_49, true)) (fun K => pvv prog (oEq .eql 140 (.tmp 66) (.const (.int .i64 1)) t_50 (.int .i64 1)) w K) w fun t_51 w =>
        pv prog (oPick t_49 t_51 (.bool false)) w fun t_52 w =>
        cd t_52 (
          Calls prog 98 #[data_p0, a_0, b_1] w (Ret fun t_53 w =>
          cd t_53 (
            K (.tuple #[]) w) <|
          k_47 [] w)) <|
        k_47 [] w) fun k_54 =>
      pvv prog (oEq .eql 140 (.tmp 49) (.const (.int .i64 2)) t_14 (.int .i64 2)) w fun t_55 w =>
      cd t_55 (
        Calls prog 97 #[data_p0, a_0, b_1] w (Ret fun t_56 w =>
        pvv prog (binOp .sub 3 b_1 (.int .i64 1)) w fun t_57 w =>
        pvv prog (binOp .sub 3 t_13 a_0) w fun t_58 w =>
        pvv prog (binOp .sub 3 t_57 t_58) w fun t_59 w =>
        k_54 [t_59, (.int .i64 1)] w)) <|
      k_54 [t_13, t_14] w)) fun k_60 =>
    pvv prog (Op.unary .not wasBalanced_3) w fun t_61 w =>
    cd t_61 (
      Calls prog 95 #[data_p0, a_0, b_1] w (Ret fun t_62 w =>
      pvv prog (binOp .sub 3 limit_2 (.int .i64 1)) w fun t_63 w =>
      k_60 [t_63] w)) <|
    k_60 [limit_2] w) [a_p1, b_p2, limit_p3, (.bool true), (.bool true)] w
theorem B85_eq (data_p0 a_p1 b_p2 limit_p3 : Value) (w : World) (K : Value → World → Prop) : denFn prog Try.f85 T85 [data_p0, a_p1, b_p2, limit_p3] w K = B85 data_p0 a_p1 b_p2 limit_p3 w K := by kernel_rfl
theorem c85 {data_p0 a_p1 b_p2 limit_p3 : Value} {w : World} {K : Value → World → Prop} (h : B85 data_p0 a_p1 b_p2 limit_p3 w K) : Calls prog 85 #[data_p0, a_p1, b_p2, limit_p3] w (Ret K) :=
  denFn_calls Try.func85 T85_ok (Eq.mpr (B85_eq data_p0 a_p1 b_p2 limit_p3 w K) h)

-- 5 holdfast/holdfastlaw03.WalNone
def T5 : Ann := (.seq .none (.seq .none (.seq .none (.seq .none (.seq .none .none)))))
theorem T5_ok : chkFn prog Try.f5 T5 = true := by kernel_rfl
def B5 (n_p0 : Value) (w : World) (K : Value → World → Prop) : Prop :=
  Calls prog 16 #[(.pointer none), n_p0] w (Ret fun t_0 w =>
  pvv prog (Instr.extract t_0 0) w fun t_1 w =>
  pvv prog (Instr.extract t_0 1) w fun t_2 w =>
  Calls prog 17 #[(.pointer none), n_p0] w (Ret fun t_3 w =>
  pvv prog (Instr.extract t_3 0) w fun t_4 w =>
  pvv prog (Instr.extract t_3 1) w fun t_5 w =>
  Calls prog 8 #[] w (Ret fun t_6 w =>
  gate (some (t_6, true)) (fun K => K t_2 w) w fun t_7 w =>
  gate (some (t_6, true)) (fun K => pvv prog (oEq .eql 36 (.tmp 21) (.const (.int .i64 1)) t_7 (.int .i64 1)) w K) w fun t_8 w =>
  pv prog (oPick t_6 t_8 (.bool false)) w fun t_9 w =>
  gate (some (t_9, true)) (fun K => K t_5 w) w fun t_10 w =>
  gate (some (t_9, true)) (fun K => pvv prog (oEq .eql 36 (.tmp 25) (.const (.int .i64 1)) t_10 (.int .i64 1)) w K) w fun t_11 w =>
  pv prog (oPick t_9 t_11 (.bool false)) w fun t_12 w =>
  gate (some (t_12, true)) (fun K => K (.pointer none) w) w fun t_13 w =>
  gate (some (t_12, true)) (fun K => Calls prog 10 #[t_13, (.slice none 0 0)] w (Ret K)) w fun t_14 w =>
  gate (some (t_12, true)) (fun K => pvv prog (oEq .eql 36 (.tmp 30) (.const (.int .i64 1)) t_14 (.int .i64 1)) w K) w fun t_15 w =>
  pv prog (oPick t_12 t_15 (.bool false)) w fun t_16 w =>
  gate (some (t_16, true)) (fun K => K (.pointer none) w) w fun t_17 w =>
  gate (some (t_16, true)) (fun K => Calls prog 15 #[t_17] w (Ret K)) w fun t_18 w =>
  gate (some (t_16, true)) (fun K => pvv prog (oEq .eql 36 (.tmp 35) (.const (.int .i64 1)) t_18 (.int .i64 1)) w K) w fun t_19 w =>
  pv prog (oPick t_16 t_19 (.bool false)) w fun t_20 w =>
  gate (some (t_20, true)) (fun K => K (.pointer none) w) w fun t_21 w =>
  gate (some (t_20, true)) (fun K => Calls prog 18 #[t_21] w (Ret K)) w fun t_22 w =>
  gate (some (t_20, true)) (fun K => pvv prog (oEq .eql 3 (.tmp 40) (.const (.int .i64 0)) t_22 (.int .i64 0)) w K) w fun t_23 w =>
  pv prog (oPick t_20 t_23 (.bool false)) w fun t_24 w =>
  gate (some (t_24, true)) (fun K => K (.pointer none) w) w fun t_25 w =>
  gate (some (t_24, true)) (fun K => Calls prog 19 #[t_25] w (Ret K)) w fun t_26 w =>
  gate (some (t_24, true)) (fun K => pvv prog (oEq .eql 3 (.tmp 45) (.const (.int .i64 0)) t_26 (.int .i64 0)) w K) w fun t_27 w =>
  pv prog (oPick t_24 t_27 (.bool false)) w fun t_28 w =>
  gate (some (t_28, true)) (fun K => K (.pointer none) w) w fun t_29 w =>
  gate (some (t_28, true)) (fun K => Calls prog 20 #[t_29] w (Ret K)) w fun t_30 w =>
  gate (some (t_28, true)) (fun K => pvv prog (oEq .eql 3 (.tmp 50) (.const (.int .i64 0)) t_30 (.int .i64 0)) w K) w fun t_31 w =>
  pv prog (oPick t_28 t_31 (.bool false)) w fun t_32 w =>
  gate (some (t_32, true)) (fun K => K (.pointer none) w) w fun t_33 w =>
  gate (some (t_32, true)) (fun K => Calls prog 21 #[t_33] w (Ret K)) w fun t_34 w =>
  gate (some (t_32, true)) (fun K => pvv prog (oEq .eql 3 (.tmp 55) (.const (.int .i64 0)) t_34 (.int .i64 0)) w K) w fun t_35 w =>
  pv prog (oPick t_32 t_35 (.bool false)) w fun t_36 w =>
  gate (some (t_36, true)) (fun K => K (.pointer none) w) w fun t_37 w =>
  gate (some (t_36, true)) (fun K => Calls prog 14 #[t_37] w (Ret K)) w fun t_38 w =>
  gate (some (t_36, true)) (fun K => pv prog (oBi .len #[29] 3 #[false] #[t_38]) w K) w fun t_39 w =>
  gate (some (t_36, true)) (fun K => pvv prog (oEq .eql 3 (.tmp 61) (.const (.int .i64 0)) t_39 (.int .i64 0)) w K) w fun t_40 w =>
  pv prog (oPick t_36 t_40 (.bool false)) w fun t_41 w =>
  gate (some (t_41, true)) (fun K => K (.pointer none) w) w fun t_42 w =>
  gate (some (t_41, true)) (fun K => Calls prog 12 #[t_42] w (Ret K)) w fun t_43 w =>
  gate (some (t_41, true)) (fun K => pvv prog (oEq .eql 39 (.tmp 66) (.const (.pointer none)) t_43 (.pointer none)) w K) w fun t_44 w =>
  pv prog (oPick t_41 t_44 (.bool false)) w fun t_45 w =>
  gate (some (t_45, true)) (fun K => K n_p0 w) w fun t_46 w =>
  gate (some (t_45, true)) (fun K => Calls prog 22 #[t_46] w (Ret K)) w fun t_47 w =>
  gate (some (t_45, true)) (fun K => K n_p0 w) w fun t_48 w =>
  gate (some (t_45, true)) (fun K => Calls prog 23 #[t_48] w (Ret K)) w fun t_49 w =>
  gate (some (t_45, true)) (fun K => pvv prog (oEq .eql 3 (.tmp 71) (.tmp 73) t_47 t_49) w K) w fun t_50 w =>
  pv prog (oPick t_45 t_50 (.bool false)) w fun t_51 w =>
  K t_51 w)))
theorem B5_eq (n_p0 : Value) (w : World) (K : Value → World → Prop) : denFn prog Try.f5 T5 [n_p0] w K = B5 n_p0 w K := by kernel_rfl
theorem c5 {n_p0 : Value} {w : World} {K : Value → World → Prop} (h : B5 n_p0 w K) : Calls prog 5 #[n_p0] w (Ret K) :=
  denFn_calls Try.func5 T5_ok (Eq.mpr (B5_eq n_p0 w K) h)

-- 15 (*holdfast/wal.Log).Checkpoint
def T15 : Ann := (.seq .none (.seq (.block (.seq .none (.seq (.seq .none .none) (.seq .none (.seq (.seq .none .none) .none))))) (.seq (.seq .none (.block (.loop 9007199254216816 [19] (.seq .none (.seq (.seq .none .none) (.seq (.block (.seq .none (.seq (.draw [.op 0 .pure, .op 1 .pure, .op 2 .pure, .op 3 .pure, .op 5 .pure, .op 6 .pure, .op 7 .pure, .op 9 .pure, .op 4 .load, .op 8 .load, .op 10 .load, .op 11 .eff, .op 12 .pure, .op 13 .pure, .op 14 .pure, .op 15 .pure, .op 16 .pure]) (.draw [.op 0 .pure, .op 1 .pure, .op 2 .pure, .op 3 .pure, .op 5 .pure, .op 6 .pure, .op 7 .pure, .op 10 .pure, .op 12 .pure, .op 4 .load, .op 8 .load, .op 9 .pure, .op 11 .pure, .op 13 .eff])))) .none)))))) (.seq .none (.seq .none (.seq .none (.seq .none .none)))))))
theorem T15_ok : chkFn prog Try.f15 T15 = true := by kernel_rfl
def B15 (l_p0 : Value) (w : World) (K : Value → World → Prop) : Prop :=
  pvv prog (oEq .eql 23 (.tmp 8) (.const (.pointer none)) l_p0 (.pointer none)) w fun t_0 w =>
  cd t_0 (
    K (.int .i64 1) w) <|
  pv prog (oNil l_p0) w fun t_1 w =>
  pvv prog (Instr.fieldAt 71 t_1 3) w fun t_2 w =>
  ldv prog (Instr.loadAt 3 t_2) w fun t_3 w =>
  pvv prog (oEq .eql 3 (.tmp 14) (.const (.int .i64 0)) t_3 (.int .i64 0)) w fun t_4 w =>
  cd t_4 (
    K (.int .i64 0) w) <|
  Calls prog 14 #[l_p0] w (Ret fun t_5 w =>
  pv prog (oBi .len #[29] 3 #[false] #[t_5]) w fun t_6 w =>
  lp (fun σ w again_8 => pop σ fun t_7 σ => fin σ <|
    pvv prog (binOp .lss 3 t_7 t_6) w fun t_9 w =>
    cd t_9 (
      pvv prog (Instr.indexAt 29 t_5 t_7) w fun t_10 w =>
      ldv prog (Instr.loadAt 3 t_10) w fun t_11 w =>
      dr w fun w =>
      pv prog (oNil l_p0) w fun t_12 w =>
      pvv prog (Instr.fieldAt 71 t_12 0) w fun t_13 w =>
      pvv prog (Instr.fieldAt 68 t_13 0) w fun t_14 w =>
      pv prog (oNil l_p0) w fun t_15 w =>
      pvv prog (Instr.fieldAt 71 t_15 4) w fun t_16 w =>
      bindS (vN (Instr.loadAt 39 t_14)) fun m_18 => ldv prog (Instr.loadAt 39 t_14) w fun t_17 w =>
      bindS (vN (Instr.loadAt 69 t_16)) fun m_20 => ldv prog (Instr.loadAt 69 t_16) w fun t_19 w =>
      bindS (vN (Instr.lookup 69 t_19 t_11 false)) fun m_22 => ldv prog (Instr.lookup 69 t_19 t_11 false) w fun t_21 w =>
      Calls prog 44 #[t_17, t_21] w (Ret fun t_23 w => stay prog none m_20 t_19 w <| 
      pvv prog (Instr.extract t_23 0) w fun t_24 w =>
      pvv prog (Instr.extract t_23 1) w fun t_25 w =>
      dr w fun w =>
      pv prog (oNil l_p0) w fun t_26 w =>
      pvv prog (Instr.fieldAt 71 t_26 0) w fun t_27 w =>
      pvv prog (Instr.fieldAt 68 t_27 0) w fun t_28 w =>
      pv prog (oNil l_p0) w fun t_29 w =>
      pvv prog (Instr.fieldAt 71 t_29 1) w fun t_30 w =>
      bindS (vN (Instr.loadAt 39 t_28)) fun m_32 => ldv prog (Instr.loadAt 39 t_28) w fun t_31 w =>
      bindS (vN (Instr.loadAt 3 t_30)) fun m_34 => ldv prog (Instr.loadAt 3 t_30) w fun t_33 w =>
      pvv prog (binOp .add 3 t_33 (.int .i64 1)) w fun t_35 w =>
      pvv prog (binOp .add 3 t_35 t_11) w fun t_36 w =>
      Calls prog 37 #[t_31, t_36, t_24] w (Ret fun t_37 w => stay prog none m_34 t_33 w <| 
      pvv prog (binOp .add 3 t_7 (.int .i64 1)) w fun t_38 w =>
      again_8 [t_38] w))) <|
    pv prog (oNil l_p0) w fun t_41 w =>
    pvv prog (Instr.fieldAt 71 t_41 3) w fun t_42 w =>
    efu prog (Instr.storeAt 3 t_42 (.int .i64 0)) w fun u_43 w =>
    pv prog (oNil l_p0) w fun t_44 w =>
    pvv prog (Instr.fieldAt 71 t_44 4) w fun t_45 w =>
    ldv prog (Instr.loadAt 69 t_45) w fun t_46 w =>
    ef prog (oBi .clear #[69] 0 #[false] #[t_46]) w fun u_47 w =>
    Calls prog 38 #[l_p0] w (Ret fun t_48 w =>
    K (.int .i64 0) w)) [(.int .i64 0)] w)
theorem B15_eq (l_p0 : Value) (w : World) (K : Value → World → Prop) : denFn prog Try.f15 T15 [l_p0] w K = B15 l_p0 w K := by kernel_rfl
theorem c15 {l_p0 : Value} {w : World} {K : Value → World → Prop} (h : B15 l_p0 w K) : Calls prog 15 #[l_p0] w (Ret K) :=
  denFn_calls Try.func15 T15_ok (Eq.mpr (B15_eq l_p0 w K) h)

-- 95 slices.breakPatternsOrdered[int]
def T95 : Ann := (.seq .none (.seq .none (.seq (.seq .none (.seq .none (.seq .none (.block (.loop 36893488147351995904 [9] (.seq (.seq .none (.seq .none .none)) (.seq (.block (.seq .none (.meet 138538465100800 [10] (.seq .none (.seq .none .none)) (.draw [.op 0 .pure, .op 1 .pure, .op 2 .pure, .op 3 .pure, .op 4 .pure, .op 5 .pure, .op 6 .pure, .op 7 .pure, .op 8 .pure, .op 9 .pure, .op 10 .pure, .op 12 .pure, .op 13 .pure, .op 14 .pure, .op 11 .load, .op 15 .load, .op 16 .pure, .op 17 .eff, .op 18 .pure, .op 19 .eff])))) .none))))))) .none)))
theorem T95_ok : chkFn prog Try.f95 T95 = true := by kernel_rfl
def B95 (data_p0 a_p1 b_p2 : Value) (w : World) (K : Value → World → Prop) : Prop :=
  pvv prog (binOp .sub 3 b_p2 a_p1) w fun t_0 w =>
  pvv prog (binOp .geq 3 t_0 (.int .i64 8)) w fun t_1 w =>
  cd t_1 (
    pvv prog (convert 3 151 t_0) w fun t_2 w =>
    efv prog (Instr.alloc 151 true (.tuple #[])) w fun random_3 w =>
    efu prog (Instr.storeAt 151 random_3 t_2) w fun u_4 w =>
    Calls prog 105 #[t_0] w (Ret fun t_5 w =>
    pvv prog (binOp .quo 3 t_0 (.int .i64 4)) w fun t_6 w =>
    pvv prog (binOp .mul 3 t_6 (.int .i64 2)) w fun t_7 w =>
    pvv prog (binOp .add 3 a_p1 t_7) w fun t_8 w =>
    pvv prog (binOp .sub 3 t_8 (.int .i64 1)) w fun t_9 w =>
    lp (fun σ w again_11 => pop σ fun idx_10 σ => fin σ <|
      pvv prog (binOp .quo 3 t_0 (.int .i64 4)) w fun t_12 w =>
      pvv prog (binOp .mul 3 t_12 (.int .i64 2)) w fun t_13 w =>
      pvv prog (binOp .add 3 a_p1 t_13) w fun t_14 w =>
      pvv prog (binOp .add 3 t_14 (.int .i64 1)) w fun t_15 w =>
      pvv prog (binOp .leq 3 idx_10 t_15) w fun t_16 w =>
      cd t_16 (
        Calls prog 106 #[random_3] w (Ret fun t_17 w =>
        pvv prog (binOp .sub 108 t_5 (.int .u64 1)) w fun t_18 w =>
        pvv prog (binOp .and 108 t_17 t_18) w fun t_19 w =>
        pvv prog (convert 108 3 t_19) w fun t_20 w =>
        jn (fun σ w => pop σ fun other_21 σ => fin σ <|
          dr w fun w =>
          pvv prog (binOp .add 3 a_p1 other_21) w fun t_22 w =>
          pvv prog (binOp .add 3 a_p1 other_21) w fun t_23 w =>
          pvv prog (Instr.indexAt 29 data_p0 t_23) w fun t_24 w =>
          pvv prog (Instr.indexAt 29 data_p0 idx_10) w fun t_25 w =>
          bindS (vN (Instr.loadAt 3 t_24)) fun m_27 => ldv prog (Instr.loadAt 3 t_24) w fun t_26 w =>
          bindS (vN (Instr.loadAt 3 t_25)) fun m_29 => ldv prog (Instr.loadAt 3 t_25) w fun t_28 w =>
          pvv prog (Instr.indexAt 29 data_p0 idx_10) w fun t_30 w =>
          efu prog (Instr.storeAt 3 t_30 t_26) w fun u_31 w =>
          pvv prog (Instr.indexAt 29 data_p0 t_22) w fun t_32 w =>
          efu prog (Instr.storeAt 3 t_32 t_28) w fun u_33 w =>
          pvv prog (binOp .add 3 idx_10 (.int .i64 1)) w fun t_34 w =>
          again_11 [t_34] w) fun k_37 =>
        pvv prog (binOp .geq 3 t_20 t_0) w fun t_38 w =>
        cd t_38 (
          pvv prog (binOp .sub 3 t_20 t_0) w fun t_39 w =>
          k_37 [t_39] w) <|
        k_37 [t_20] w)) <|
      K (.tuple #[]) w) [t_9] w)) <|
  K (.tuple #[]) w
theorem B95_eq (data_p0 a_p1 b_p2 : Value) (w : World) (K : Value → World → Prop) : denFn prog Try.f95 T95 [data_p0, a_p1, b_p2] w K = B95 data_p0 a_p1 b_p2 w K := by kernel_rfl
theorem c95 {data_p0 a_p1 b_p2 : Value} {w : World} {K : Value → World → Prop} (h : B95 data_p0 a_p1 b_p2 w K) : Calls prog 95 #[data_p0, a_p1, b_p2] w (Ret K) :=
  denFn_calls Try.func95 T95_ok (Eq.mpr (B95_eq data_p0 a_p1 b_p2 w K) h)

-- 82 (*holdfast/holdfastref01.Disk).Read
def T82 : Ann := (.seq .none (.seq (.block (.seq .none (.seq (.seq .none .none) (.seq .none (.seq (.seq .none .none) .none))))) (.seq (.seq .none (.block (.loop 2251799545249904 [6] (.seq (.seq .none (.seq .none .none)) (.seq (.block (.seq .none (.seq (.seq .none .none) .none))) .none))))) (.seq .none .none))))
theorem T82_ok : chkFn prog Try.f82 T82 = true := by kernel_rfl
def B82 (d_p0 n_p1 : Value) (w : World) (K : Value → World → Prop) : Prop :=
  pvv prog (oEq .eql 58 (.tmp 8) (.const (.pointer none)) d_p0 (.pointer none)) w fun t_0 w =>
  cd t_0 (
    K (.tuple #[(.slice none 0 0), (.int .i64 1)]) w) <|
  pvv prog (binOp .lss 3 n_p1 (.int .i64 0)) w fun t_1 w =>
  gate (some (t_1, false)) (fun K => K n_p1 w) w fun t_2 w =>
  gate (some (t_1, false)) (fun K => K d_p0 w) w fun t_3 w =>
  gate (some (t_1, false)) (fun K => pv prog (oNil t_3) w K) w fun t_4 w =>
  gate (some (t_1, false)) (fun K => pvv prog (Instr.fieldAt 102 t_4 0) w K) w fun t_5 w =>
  gate (some (t_1, false)) (fun K => ldv prog (Instr.loadAt 78 t_5) w K) w fun t_6 w =>
  gate (some (t_1, false)) (fun K => pv prog (oBi .len #[78] 3 #[false] #[t_6]) w K) w fun t_7 w =>
  gate (some (t_1, false)) (fun K => pvv prog (binOp .geq 3 t_2 t_7) w K) w fun t_8 w =>
  pv prog (oPick t_1 (.bool true) t_8) w fun t_9 w =>
  cd t_9 (
    K (.tuple #[(.slice none 0 0), (.int .i64 2)]) w) <|
  pv prog (oNil d_p0) w fun t_10 w =>
  pvv prog (Instr.fieldAt 102 t_10 1) w fun t_11 w =>
  ldv prog (Instr.loadAt 100 t_11) w fun t_12 w =>
  pv prog (oBi .len #[100] 3 #[false] #[t_12]) w fun t_13 w =>
  pvv prog (binOp .sub 3 t_13 (.int .i64 1)) w fun t_14 w =>
  lp (fun σ w again_16 => pop σ fun i_15 σ => fin σ <|
    pvv prog (binOp .geq 3 i_15 (.int .i64 0)) w fun t_17 w =>
    cd t_17 (
      pv prog (oNil d_p0) w fun t_18 w =>
      pvv prog (Instr.fieldAt 102 t_18 1) w fun t_19 w =>
      ldv prog (Instr.loadAt 100 t_19) w fun t_20 w =>
      pvv prog (Instr.indexAt 100 t_20 i_15) w fun t_21 w =>
      pvv prog (Instr.fieldAt 138 t_21 0) w fun t_22 w =>
      ldv prog (Instr.loadAt 3 t_22) w fun t_23 w =>
      pvv prog (oEq .eql 3 (.tmp 39) (.tmp 40) t_23 n_p1) w fun t_24 w =>
      cd t_24 (
        pv prog (oNil d_p0) w fun t_25 w =>
        pvv prog (Instr.fieldAt 102 t_25 1) w fun t_26 w =>
        ldv prog (Instr.loadAt 100 t_26) w fun t_27 w =>
        pvv prog (Instr.indexAt 100 t_27 i_15) w fun t_28 w =>
        pvv prog (Instr.fieldAt 138 t_28 1) w fun t_29 w =>
        ldv prog (Instr.loadAt 33 t_29) w fun t_30 w =>
        Calls prog 92 #[t_30] w (Ret fun t_31 w =>
        K (.tuple #[t_31, (.int .i64 0)]) w)) <|
      pvv prog (binOp .sub 3 i_15 (.int .i64 1)) w fun t_32 w =>
      again_16 [t_32] w) <|
    pv prog (oNil d_p0) w fun t_33 w =>
    pvv prog (Instr.fieldAt 102 t_33 0) w fun t_34 w =>
    ldv prog (Instr.loadAt 78 t_34) w fun t_35 w =>
    pvv prog (Instr.indexAt 78 t_35 n_p1) w fun t_36 w =>
    ldv prog (Instr.loadAt 33 t_36) w fun t_37 w =>
    Calls prog 92 #[t_37] w (Ret fun t_38 w =>
    K (.tuple #[t_38, (.int .i64 0)]) w)) [t_14] w
theorem B82_eq (d_p0 n_p1 : Value) (w : World) (K : Value → World → Prop) : denFn prog Try.f82 T82 [d_p0, n_p1] w K = B82 d_p0 n_p1 w K := by kernel_rfl
theorem c82 {d_p0 n_p1 : Value} {w : World} {K : Value → World → Prop} (h : B82 d_p0 n_p1 w K) : Calls prog 82 #[d_p0, n_p1] w (Ret K) :=
  denFn_calls Try.func82 T82_ok (Eq.mpr (B82_eq d_p0 n_p1 w K) h)

-- 96 slices.choosePivotOrdered[int]
def T96 : Ann := (.seq .none (.seq .none (.seq .none (.seq .none (.seq .none (.seq .none (.meet 562947805944832 [11] (.seq .none (.seq (.meet 17583596116992 [10, 11, 12] (.seq .none (.seq (.seq .none (.seq .none .none)) .none)) .none) .none)) (.seq .none (.block (.seq .none (.seq (.seq .none .none) (.seq .none (.seq (.seq .none .none) (.seq .none .none))))))))))))))
theorem T96_ok : chkFn prog Try.f96 T96 = true := by kernel_rfl
def B96 (data_p0 a_p1 b_p2 : Value) (w : World) (K : Value → World → Prop) : Prop :=
  pvv prog (binOp .sub 3 b_p2 a_p1) w fun t_0 w =>
  efv prog (Instr.alloc 3 true (.tuple #[])) w fun swaps_1 w =>
  pvv prog (binOp .quo 3 t_0 (.int .i64 4)) w fun t_2 w =>
  pvv prog (binOp .mul 3 t_2 (.int .i64 1)) w fun t_3 w =>
  pvv prog (binOp .add 3 a_p1 t_3) w fun t_4 w =>
  pvv prog (binOp .quo 3 t_0 (.int .i64 4)) w fun t_5 w =>
  pvv prog (binOp .mul 3 t_5 (.int .i64 2)) w fun t_6 w =>
  pvv prog (binOp .add 3 a_p1 t_6) w fun t_7 w =>
  pvv prog (binOp .quo 3 t_0 (.int .i64 4)) w fun t_8 w =>
  pvv prog (binOp .mul 3 t_8 (.int .i64 3)) w fun t_9 w =>
  pvv prog (binOp .add 3 a_p1 t_9) w fun t_10 w =>
  jn (fun σ w => pop σ fun j_11 σ => fin σ <|
    ldv prog (Instr.loadAt 3 swaps_1) w fun t_12 w =>
    pvv prog (oEq .eql 3 (.tmp 49) (.const (.int .i64 0)) t_12 (.int .i64 0)) w fun t_13 w =>
    cd t_13 (
      K (.tuple #[j_11, (.int .i64 1)]) w) <|
    pvv prog (oEq .eql 3 (.tmp 49) (.const (.int .i64 12)) t_12 (.int .i64 12)) w fun t_14 w =>
    cd t_14 (
      K (.tuple #[j_11, (.int .i64 2)]) w) <|
    K (.tuple #[j_11, (.int .i64 0)]) w) fun k_15 =>
  pvv prog (binOp .geq 3 t_0 (.int .i64 8)) w fun t_16 w =>
  cd t_16 (
    jn (fun σ w => pop σ fun i_17 σ => pop σ fun j_18 σ => pop σ fun k_19 σ => fin σ <|
      Calls prog 108 #[data_p0, i_17, j_18, k_19, swaps_1] w (Ret fun t_20 w =>
      k_15 [t_20] w)) fun k_21 =>
    pvv prog (binOp .geq 3 t_0 (.int .i64 50)) w fun t_22 w =>
    cd t_22 (
      Calls prog 107 #[data_p0, t_4, swaps_1] w (Ret fun t_23 w =>
      Calls prog 107 #[data_p0, t_7, swaps_1] w (Ret fun t_24 w =>
      Calls prog 107 #[data_p0, t_10, swaps_1] w (Ret fun t_25 w =>
      k_21 [t_23, t_24, t_25] w)))) <|
    k_21 [t_4, t_7, t_10] w) <|
  k_15 [t_7] w
theorem B96_eq (data_p0 a_p1 b_p2 : Value) (w : World) (K : Value → World → Prop) : denFn prog Try.f96 T96 [data_p0, a_p1, b_p2] w K = B96 data_p0 a_p1 b_p2 w K := by kernel_rfl
theorem c96 {data_p0 a_p1 b_p2 : Value} {w : World} {K : Value → World → Prop} (h : B96 data_p0 a_p1 b_p2 w K) : Calls prog 96 #[data_p0, a_p1, b_p2] w (Ret K) :=
  denFn_calls Try.func96 T96_ok (Eq.mpr (B96_eq data_p0 a_p1 b_p2 w K) h)

-- 102 math/bits.Len32
def T102 : Ann := (.seq .none (.meet 125 [0, 2] (.seq .none (.seq (.seq .none .none) .none)) (.meet 8069 [0, 2] (.seq .none (.seq (.seq .none .none) .none)) (.seq .none .none))))
theorem T102_ok : chkFn prog Try.f102 T102 = true := by kernel_rfl
def B102 (x_p0 : Value) (w : World) (K : Value → World → Prop) : Prop :=
  jn (fun σ w => pop σ fun x_0 σ => pop σ fun n_1 σ => fin σ <|
    jn (fun σ w => pop σ fun x_2 σ => pop σ fun n_3 σ => fin σ <|
      pvv prog (convert 148 5 x_2) w fun t_4 w =>
      pvv prog (Instr.index 9 (.string ⟨#[0, 1, 2, 2, 3, 3, 3, 3, 4, 4, 4, 4, 4, 4, 4, 4, 5, 5, 5, 5, 5, 5, 5, 5, 5, 5, 5, 5, 5, 5, 5, 5, 6, 6, 6, 6, 6, 6, 6, 6, 6, 6, 6, 6, 6, 6, 6, 6, 6, 6, 6, 6, 6, 6, 6, 6, 6, 6, 6, 6, 6, 6, 6, 6, 7, 7, 7, 7, 7, 7, 7, 7, 7, 7, 7, 7, 7, 7, 7, 7, 7, 7, 7, 7, 7, 7, 7, 7, 7, 7, 7, 7, 7, 7, 7, 7, 7, 7, 7, 7, 7, 7, 7, 7, 7, 7, 7, 7, 7, 7, 7, 7, 7, 7, 7, 7, 7, 7, 7, 7, 7, 7, 7, 7, 7, 7, 7, 7, 8, 8, 8, 8, 8, 8, 8, 8, 8, 8, 8, 8, 8, 8, 8, 8, 8, 8, 8, 8, 8, 8, 8, 8, 8, 8, 8, 8, 8, 8, 8, 8, 8, 8, 8, 8, 8, 8, 8, 8, 8, 8, 8, 8, 8, 8, 8, 8, 8, 8, 8, 8, 8, 8, 8, 8, 8, 8, 8, 8, 8, 8, 8, 8, 8, 8, 8, 8, 8, 8, 8, 8, 8, 8, 8, 8, 8, 8, 8, 8, 8, 8, 8, 8, 8, 8, 8, 8, 8, 8, 8, 8, 8, 8, 8, 8, 8, 8, 8, 8, 8, 8, 8, 8, 8, 8, 8, 8, 8, 8, 8, 8, 8, 8, 8, 8, 8, 8, 8, 8, 8, 8, 8, 8, 8, 8, 8, 8]⟩) t_4) w fun t_5 w =>
      pvv prog (convert 5 3 t_5) w fun t_6 w =>
      pvv prog (binOp .add 3 n_3 t_6) w fun t_7 w =>
      K t_7 w) fun k_8 =>
    pvv prog (binOp .geq 148 x_0 (.int .u32 256)) w fun t_9 w =>
    cd t_9 (
      pvv prog (binOp .shr 148 x_0 (.int .u64 8)) w fun t_10 w =>
      pvv prog (binOp .add 3 n_1 (.int .i64 8)) w fun t_11 w =>
      k_8 [t_10, t_11] w) <|
    k_8 [x_0, n_1] w) fun k_12 =>
  pvv prog (binOp .geq 148 x_p0 (.int .u32 65536)) w fun t_13 w =>
  cd t_13 (
    pvv prog (binOp .shr 148 x_p0 (.int .u64 16)) w fun t_14 w =>
    k_12 [t_14, (.int .i64 16)] w) <|
  k_12 [x_p0, (.int .i64 0)] w
theorem B102_eq (x_p0 : Value) (w : World) (K : Value → World → Prop) : denFn prog Try.f102 T102 [x_p0] w K = B102 x_p0 w K := by kernel_rfl
theorem c102 {x_p0 : Value} {w : World} {K : Value → World → Prop} (h : B102 x_p0 w K) : Calls prog 102 #[x_p0] w (Ret K) :=
  denFn_calls Try.func102 T102_ok (Eq.mpr (B102_eq x_p0 w K) h)

-- 38 (*holdfast/wal.Log).head
def T38 : Ann := (.seq .none (.seq .none (.seq (.draw [.op 0 .pure, .op 1 .pure, .op 2 .pure, .op 3 .pure, .op 4 .pure, .op 5 .load, .op 6 .eff]) (.seq (.draw [.op 0 .pure, .op 1 .pure, .op 2 .pure, .op 3 .pure, .op 4 .pure, .op 5 .load, .op 6 .eff]) .none))))
theorem T38_ok : chkFn prog Try.f38 T38 = true := by kernel_rfl
def B38 (l_p0 : Value) (w : World) (K : Value → World → Prop) : Prop :=
  efv prog (Instr.makeSlice 33 (.int .i64 256) (.int .i64 256)) w fun t_0 w =>
  pvv prog (Instr.indexAt 33 t_0 (.int .i64 0)) w fun t_1 w =>
  efu prog (Instr.storeAt 5 t_1 (.int .u8 72)) w fun u_2 w =>
  pvv prog (Instr.indexAt 33 t_0 (.int .i64 1)) w fun t_3 w =>
  efu prog (Instr.storeAt 5 t_3 (.int .u8 70)) w fun u_4 w =>
  dr w fun w =>
  pvv prog (Instr.sliceAt 33 t_0 (some (.int .i64 2)) (some (.int .i64 10)) none) w fun t_5 w =>
  pv prog (oNil l_p0) w fun t_6 w =>
  pvv prog (Instr.fieldAt 71 t_6 2) w fun t_7 w =>
  bindS (vN (Instr.loadAt 3 t_7)) fun m_9 => ldv prog (Instr.loadAt 3 t_7) w fun t_8 w =>
  Calls prog 34 #[t_5, t_8] w (Ret fun t_10 w =>
  dr w fun w =>
  pvv prog (Instr.sliceAt 33 t_0 (some (.int .i64 10)) (some (.int .i64 12)) none) w fun t_11 w =>
  pv prog (oNil l_p0) w fun t_12 w =>
  pvv prog (Instr.fieldAt 71 t_12 3) w fun t_13 w =>
  bindS (vN (Instr.loadAt 3 t_13)) fun m_15 => ldv prog (Instr.loadAt 3 t_13) w fun t_14 w =>
  Calls prog 34 #[t_11, t_14] w (Ret fun t_16 w =>
  pv prog (oNil l_p0) w fun t_17 w =>
  pvv prog (Instr.fieldAt 71 t_17 0) w fun t_18 w =>
  pvv prog (Instr.fieldAt 68 t_18 0) w fun t_19 w =>
  ldv prog (Instr.loadAt 39 t_19) w fun t_20 w =>
  Calls prog 37 #[t_20, (.int .i64 0), t_0] w (Ret fun t_21 w =>
  K (.tuple #[]) w)))
theorem B38_eq (l_p0 : Value) (w : World) (K : Value → World → Prop) : denFn prog Try.f38 T38 [l_p0] w K = B38 l_p0 w K := by kernel_rfl
theorem c38 {l_p0 : Value} {w : World} {K : Value → World → Prop} (h : B38 l_p0 w K) : Calls prog 38 #[l_p0] w (Ret K) :=
  denFn_calls Try.func38 T38_ok (Eq.mpr (B38_eq l_p0 w K) h)

-- 30 (*holdfast/block.Disk).Writes
def T30 : Ann := (.seq .none (.seq .none (.meet 8388584 [3] (.seq .none (.seq (.seq .none (.block (.loop 8380456 [3, 13] (.seq .none (.seq (.seq .none .none) (.seq (.block (.seq .none .none)) .none)))))) .none)) (.seq .none .none))))
theorem T30_ok : chkFn prog Try.f30 T30 = true := by kernel_rfl
def B30 (d_p0 : Value) (w : World) (K : Value → World → Prop) : Prop :=
  jn (fun σ w => pop σ fun out_0 σ => fin σ <|
    K out_0 w) fun k_1 =>
  pvv prog (oEq .neq 39 (.tmp 6) (.const (.pointer none)) d_p0 (.pointer none)) w fun t_2 w =>
  cd t_2 (
    pv prog (oNil d_p0) w fun t_3 w =>
    pvv prog (Instr.fieldAt 86 t_3 1) w fun t_4 w =>
    ldv prog (Instr.loadAt 79 t_4) w fun t_5 w =>
    pv prog (oBi .len #[79] 3 #[false] #[t_5]) w fun t_6 w =>
    lp (fun σ w again_9 => pop σ fun out_7 σ => pop σ fun t_8 σ => fin σ <|
      pvv prog (binOp .lss 3 t_8 t_6) w fun t_10 w =>
      cd t_10 (
        pvv prog (Instr.indexAt 79 t_5 t_8) w fun t_11 w =>
        ldv prog (Instr.loadAt 113 t_11) w fun t_12 w =>
        efv prog (Instr.alloc 113 true (.tuple #[])) w fun w_13 w =>
        efu prog (Instr.storeAt 113 w_13 t_12) w fun u_14 w =>
        pvv prog (Instr.fieldAt 113 w_13 0) w fun t_15 w =>
        ldv prog (Instr.loadAt 3 t_15) w fun t_16 w =>
        efv prog (Instr.buildSlice 29 1 #[(0, t_16)]) w fun t_17 w =>
        ef prog (oBi .append #[29, 29] 29 #[false, false] #[out_7, t_17]) w fun t_18 w =>
        pvv prog (binOp .add 3 t_8 (.int .i64 1)) w fun t_19 w =>
        again_9 [t_18, t_19] w) <|
      k_1 [out_7] w) [(.slice none 0 0), (.int .i64 0)] w) <|
  k_1 [(.slice none 0 0)] w
theorem B30_eq (d_p0 : Value) (w : World) (K : Value → World → Prop) : denFn prog Try.f30 T30 [d_p0] w K = B30 d_p0 w K := by kernel_rfl
theorem c30 {d_p0 : Value} {w : World} {K : Value → World → Prop} (h : B30 d_p0 w K) : Calls prog 30 #[d_p0] w (Ret K) :=
  denFn_calls Try.func30 T30_ok (Eq.mpr (B30_eq d_p0 w K) h)

-- 39 slices.EqualFunc[[][]byte,[][]byte,[]byte,[]byte]
def T39 : Ann := (.seq .none (.seq (.seq .none (.seq (.seq .none .none) .none)) (.seq (.seq .none (.block (.loop 4294837184 [17] (.seq .none (.seq (.seq .none .none) (.seq (.block (.seq .none (.seq .none (.seq .none (.seq (.seq .none .none) .none))))) .none)))))) (.seq .none .none))))
theorem T39_ok : chkFn prog Try.f39 T39 = true := by kernel_rfl
def B39 (s1_p0 s2_p1 eq_p2 : Value) (w : World) (K : Value → World → Prop) : Prop :=
  pv prog (oBi .len #[78] 3 #[false] #[s1_p0]) w fun t_0 w =>
  pv prog (oBi .len #[78] 3 #[false] #[s2_p1]) w fun t_1 w =>
  pvv prog (oEq .neq 3 (.tmp 11) (.tmp 13) t_0 t_1) w fun t_2 w =>
  cd t_2 (
    K (.bool false) w) <|
  pv prog (oBi .len #[78] 3 #[false] #[s1_p0]) w fun t_3 w =>
  lp (fun σ w again_5 => pop σ fun t_4 σ => fin σ <|
    pvv prog (binOp .lss 3 t_4 t_3) w fun t_6 w =>
    cd t_6 (
      pvv prog (Instr.indexAt 78 s1_p0 t_4) w fun t_7 w =>
      ldv prog (Instr.loadAt 33 t_7) w fun t_8 w =>
      pvv prog (Instr.indexAt 78 s2_p1 t_4) w fun t_9 w =>
      ldv prog (Instr.loadAt 33 t_9) w fun t_10 w =>
      ef prog (oCall eq_p2 #[t_8, t_10]) w fun t_11 w =>
      pvv prog (Op.unary .not t_11) w fun t_12 w =>
      cd t_12 (
        K (.bool false) w) <|
      pvv prog (binOp .add 3 t_4 (.int .i64 1)) w fun t_13 w =>
      again_5 [t_13] w) <|
    K (.bool true) w) [(.int .i64 0)] w
theorem B39_eq (s1_p0 s2_p1 eq_p2 : Value) (w : World) (K : Value → World → Prop) : denFn prog Try.f39 T39 [s1_p0, s2_p1, eq_p2] w K = B39 s1_p0 s2_p1 eq_p2 w K := by kernel_rfl
theorem c39 {s1_p0 s2_p1 eq_p2 : Value} {w : World} {K : Value → World → Prop} (h : B39 s1_p0 s2_p1 eq_p2 w K) : Calls prog 39 #[s1_p0, s2_p1, eq_p2] w (Ret K) :=
  denFn_calls Try.func39 T39_ok (Eq.mpr (B39_eq s1_p0 s2_p1 eq_p2 w K) h)

-- 110 slices.order2Ordered[int]
def T110 : Ann := (.seq .none (.seq (.seq (.draw [.op 0 .pure, .op 1 .pure, .op 2 .pure, .op 4 .pure, .op 5 .pure, .op 6 .pure, .op 3 .load, .op 7 .load, .op 8 .eff]) (.seq (.seq .none (.seq .none .none)) .none)) (.seq .none .none)))
theorem T110_ok : chkFn prog Try.f110 T110 = true := by kernel_rfl
def B110 (data_p0 a_p1 b_p2 swaps_p3 : Value) (w : World) (K : Value → World → Prop) : Prop :=
  dr w fun w =>
  pvv prog (Instr.indexAt 29 data_p0 b_p2) w fun t_0 w =>
  pvv prog (Instr.indexAt 29 data_p0 a_p1) w fun t_1 w =>
  bindS (vN (Instr.loadAt 3 t_0)) fun m_3 => ldv prog (Instr.loadAt 3 t_0) w fun t_2 w =>
  bindS (vN (Instr.loadAt 3 t_1)) fun m_5 => ldv prog (Instr.loadAt 3 t_1) w fun t_4 w =>
  Calls prog 99 #[t_2, t_4] w (Ret fun t_6 w =>
  cd t_6 (
    pv prog (oNil swaps_p3) w fun t_7 w =>
    ldv prog (Instr.loadAt 3 t_7) w fun t_8 w =>
    pvv prog (binOp .add 3 t_8 (.int .i64 1)) w fun t_9 w =>
    pv prog (oNil swaps_p3) w fun t_10 w =>
    efu prog (Instr.storeAt 3 t_10 t_9) w fun u_11 w =>
    K (.tuple #[b_p2, a_p1]) w) <|
  K (.tuple #[a_p1, b_p2]) w)
theorem B110_eq (data_p0 a_p1 b_p2 swaps_p3 : Value) (w : World) (K : Value → World → Prop) : denFn prog Try.f110 T110 [data_p0, a_p1, b_p2, swaps_p3] w K = B110 data_p0 a_p1 b_p2 swaps_p3 w K := by kernel_rfl
theorem c110 {data_p0 a_p1 b_p2 swaps_p3 : Value} {w : World} {K : Value → World → Prop} (h : B110 data_p0 a_p1 b_p2 swaps_p3 w K) : Calls prog 110 #[data_p0, a_p1, b_p2, swaps_p3] w (Ret K) :=
  denFn_calls Try.func110 T110_ok (Eq.mpr (B110_eq data_p0 a_p1 b_p2 swaps_p3 w K) h)

-- 55 (*holdfast/pager.Pager).drop
def T55 : Ann := (.seq .none (.seq .none (.draw [.op 0 .pure, .op 1 .pure, .op 2 .pure, .op 3 .load, .op 4 .load, .op 5 .eff])))
theorem T55_ok : chkFn prog Try.f55 T55 = true := by kernel_rfl
def B55 (p_p0 n_p1 : Value) (w : World) (K : Value → World → Prop) : Prop :=
  efv prog (Instr.box 3 n_p1) w fun n_0 w =>
  pv prog (oNil p_p0) w fun t_1 w =>
  pvv prog (Instr.fieldAt 95 t_1 4) w fun t_2 w =>
  ldv prog (Instr.loadAt 29 t_2) w fun t_3 w =>
  pvv prog (Instr.makeFunc (.func 79) #[] #[n_0]) w fun t_4 w =>
  Calls prog 78 #[t_3, t_4] w (Ret fun t_5 w =>
  pv prog (oNil p_p0) w fun t_6 w =>
  pvv prog (Instr.fieldAt 95 t_6 4) w fun t_7 w =>
  efu prog (Instr.storeAt 29 t_7 t_5) w fun u_8 w =>
  dr w fun w =>
  pv prog (oNil p_p0) w fun t_9 w =>
  pvv prog (Instr.fieldAt 95 t_9 3) w fun t_10 w =>
  bindS (vN (Instr.loadAt 66 t_10)) fun m_12 => ldv prog (Instr.loadAt 66 t_10) w fun t_11 w =>
  bindS (vN (Instr.loadAt 3 n_0)) fun m_14 => ldv prog (Instr.loadAt 3 n_0) w fun t_13 w =>
  ef prog (oBi .delete #[66, 3] 0 #[false, false] #[t_11, t_13]) w fun u_15 w =>
  K (.tuple #[]) w)
theorem B55_eq (p_p0 n_p1 : Value) (w : World) (K : Value → World → Prop) : denFn prog Try.f55 T55 [p_p0, n_p1] w K = B55 p_p0 n_p1 w K := by kernel_rfl
theorem c55 {p_p0 n_p1 : Value} {w : World} {K : Value → World → Prop} (h : B55 p_p0 n_p1 w K) : Calls prog 55 #[p_p0, n_p1] w (Ret K) :=
  denFn_calls Try.func55 T55_ok (Eq.mpr (B55_eq p_p0 n_p1 w K) h)

-- 61 holdfast/holdfastref03.pair
def T61 : Ann := (.seq .none (.seq (.draw [.op 0 .pure, .op 1 .pure, .op 2 .pure, .op 6 .pure, .op 7 .pure, .op 8 .pure, .op 9 .pure, .op 3 .load, .op 4 .pure, .op 5 .pure, .op 10 .load, .op 11 .pure, .op 12 .pure, .op 13 .pure]) .none))
theorem T61_ok : chkFn prog Try.f61 T61 = true := by kernel_rfl
def B61 (b_p0 at_p1 : Value) (w : World) (K : Value → World → Prop) : Prop :=
  dr w fun w =>
  pvv prog (Instr.indexAt 33 b_p0 at_p1) w fun t_0 w =>
  pvv prog (binOp .add 3 at_p1 (.int .i64 1)) w fun t_1 w =>
  pvv prog (Instr.indexAt 33 b_p0 t_1) w fun t_2 w =>
  bindS (vN (Instr.loadAt 5 t_0)) fun m_4 => ldv prog (Instr.loadAt 5 t_0) w fun t_3 w =>
  pvv prog (convert 5 3 t_3) w fun t_5 w =>
  pvv prog (binOp .shl 3 t_5 (.int .u64 8)) w fun t_6 w =>
  bindS (vN (Instr.loadAt 5 t_2)) fun m_8 => ldv prog (Instr.loadAt 5 t_2) w fun t_7 w =>
  pvv prog (convert 5 3 t_7) w fun t_9 w =>
  pvv prog (binOp .or 3 t_6 t_9) w fun t_10 w =>
  K t_10 w
theorem B61_eq (b_p0 at_p1 : Value) (w : World) (K : Value → World → Prop) : denFn prog Try.f61 T61 [b_p0, at_p1] w K = B61 b_p0 at_p1 w K := by kernel_rfl
theorem c61 {b_p0 at_p1 : Value} {w : World} {K : Value → World → Prop} (h : B61 b_p0 at_p1 w K) : Calls prog 61 #[b_p0, at_p1] w (Ret K) :=
  denFn_calls Try.func61 T61_ok (Eq.mpr (B61_eq b_p0 at_p1 w K) h)

-- 20 (*holdfast/wal.Log).Free
def T20 : Ann := (.seq .none (.seq (.seq .none (.seq (.seq .none .none) .none)) (.seq (.draw [.op 0 .pure, .op 1 .pure, .op 2 .pure, .op 4 .pure, .op 5 .pure, .op 6 .pure, .op 3 .load, .op 7 .load, .op 8 .pure, .op 9 .pure]) .none)))
theorem T20_ok : chkFn prog Try.f20 T20 = true := by kernel_rfl
def B20 (l_p0 : Value) (w : World) (K : Value → World → Prop) : Prop :=
  pvv prog (oEq .eql 23 (.tmp 3) (.const (.pointer none)) l_p0 (.pointer none)) w fun t_0 w =>
  cd t_0 (
    K (.int .i64 0) w) <|
  dr w fun w =>
  pv prog (oNil l_p0) w fun t_1 w =>
  pvv prog (Instr.fieldAt 71 t_1 1) w fun t_2 w =>
  pv prog (oNil l_p0) w fun t_3 w =>
  pvv prog (Instr.fieldAt 71 t_3 3) w fun t_4 w =>
  bindS (vN (Instr.loadAt 3 t_2)) fun m_6 => ldv prog (Instr.loadAt 3 t_2) w fun t_5 w =>
  bindS (vN (Instr.loadAt 3 t_4)) fun m_8 => ldv prog (Instr.loadAt 3 t_4) w fun t_7 w =>
  pvv prog (binOp .sub 3 t_5 t_7) w fun t_9 w =>
  K t_9 w
theorem B20_eq (l_p0 : Value) (w : World) (K : Value → World → Prop) : denFn prog Try.f20 T20 [l_p0] w K = B20 l_p0 w K := by kernel_rfl
theorem c20 {l_p0 : Value} {w : World} {K : Value → World → Prop} (h : B20 l_p0 w K) : Calls prog 20 #[l_p0] w (Ret K) :=
  denFn_calls Try.func20 T20_ok (Eq.mpr (B20_eq l_p0 w K) h)

-- 63 slices.IndexFunc[[]holdfast/api.Page,holdfast/api.Page]
def T63 : Ann := (.seq .none (.seq (.seq .none (.block (.loop 524080 [8] (.seq .none (.seq (.seq .none .none) (.seq (.block (.seq .none (.seq .none (.seq (.seq .none .none) .none)))) .none)))))) (.seq .none .none)))
theorem T63_ok : chkFn prog Try.f63 T63 = true := by kernel_rfl
def B63 (s_p0 f_p1 : Value) (w : World) (K : Value → World → Prop) : Prop :=
  pv prog (oBi .len #[28] 3 #[false] #[s_p0]) w fun t_0 w =>
  lp (fun σ w again_2 => pop σ fun t_1 σ => fin σ <|
    pvv prog (binOp .lss 3 t_1 t_0) w fun t_3 w =>
    cd t_3 (
      pvv prog (Instr.indexAt 28 s_p0 t_1) w fun t_4 w =>
      ldv prog (Instr.loadAt 35 t_4) w fun t_5 w =>
      ef prog (oCall f_p1 #[t_5]) w fun t_6 w =>
      cd t_6 (
        K t_1 w) <|
      pvv prog (binOp .add 3 t_1 (.int .i64 1)) w fun t_7 w =>
      again_2 [t_7] w) <|
    K (.int .i64 (-1)) w) [(.int .i64 0)] w
theorem B63_eq (s_p0 f_p1 : Value) (w : World) (K : Value → World → Prop) : denFn prog Try.f63 T63 [s_p0, f_p1] w K = B63 s_p0 f_p1 w K := by kernel_rfl
theorem c63 {s_p0 f_p1 : Value} {w : World} {K : Value → World → Prop} (h : B63 s_p0 f_p1 w K) : Calls prog 63 #[s_p0, f_p1] w (Ret K) :=
  denFn_calls Try.func63 T63_ok (Eq.mpr (B63_eq s_p0 f_p1 w K) h)

-- 91 slices.IndexFunc[[]int,int]
def T91 : Ann := (.seq .none (.seq (.seq .none (.block (.loop 524080 [8] (.seq .none (.seq (.seq .none .none) (.seq (.block (.seq .none (.seq .none (.seq (.seq .none .none) .none)))) .none)))))) (.seq .none .none)))
theorem T91_ok : chkFn prog Try.f91 T91 = true := by kernel_rfl
def B91 (s_p0 f_p1 : Value) (w : World) (K : Value → World → Prop) : Prop :=
  pv prog (oBi .len #[29] 3 #[false] #[s_p0]) w fun t_0 w =>
  lp (fun σ w again_2 => pop σ fun t_1 σ => fin σ <|
    pvv prog (binOp .lss 3 t_1 t_0) w fun t_3 w =>
    cd t_3 (
      pvv prog (Instr.indexAt 29 s_p0 t_1) w fun t_4 w =>
      ldv prog (Instr.loadAt 3 t_4) w fun t_5 w =>
      ef prog (oCall f_p1 #[t_5]) w fun t_6 w =>
      cd t_6 (
        K t_1 w) <|
      pvv prog (binOp .add 3 t_1 (.int .i64 1)) w fun t_7 w =>
      again_2 [t_7] w) <|
    K (.int .i64 (-1)) w) [(.int .i64 0)] w
theorem B91_eq (s_p0 f_p1 : Value) (w : World) (K : Value → World → Prop) : denFn prog Try.f91 T91 [s_p0, f_p1] w K = B91 s_p0 f_p1 w K := by kernel_rfl
theorem c91 {s_p0 f_p1 : Value} {w : World} {K : Value → World → Prop} (h : B91 s_p0 f_p1 w K) : Calls prog 91 #[s_p0, f_p1] w (Ret K) :=
  denFn_calls Try.func91 T91_ok (Eq.mpr (B91_eq s_p0 f_p1 w K) h)

-- 22 holdfast/wal.Need
def T22 : Ann := (.seq .none (.seq (.seq .none (.seq (.seq .none .none) .none)) (.seq .none .none)))
theorem T22_ok : chkFn prog Try.f22 T22 = true := by kernel_rfl
def B22 (pages_p0 : Value) (w : World) (K : Value → World → Prop) : Prop :=
  pvv prog (binOp .lss 3 pages_p0 (.int .i64 1)) w fun t_0 w =>
  gate (some (t_0, false)) (fun K => K pages_p0 w) w fun t_1 w =>
  gate (some (t_0, false)) (fun K => pvv prog (binOp .gtr 3 t_1 (.int .i64 100)) w K) w fun t_2 w =>
  pv prog (oPick t_0 (.bool true) t_2) w fun t_3 w =>
  cd t_3 (
    K (.int .i64 0) w) <|
  pvv prog (binOp .add 3 pages_p0 (.int .i64 1)) w fun t_4 w =>
  K t_4 w
theorem B22_eq (pages_p0 : Value) (w : World) (K : Value → World → Prop) : denFn prog Try.f22 T22 [pages_p0] w K = B22 pages_p0 w K := by kernel_rfl
theorem c22 {pages_p0 : Value} {w : World} {K : Value → World → Prop} (h : B22 pages_p0 w K) : Calls prog 22 #[pages_p0] w (Ret K) :=
  denFn_calls Try.func22 T22_ok (Eq.mpr (B22_eq pages_p0 w K) h)

-- 12 (*holdfast/wal.Log).Disk
def T12 : Ann := (.seq .none (.seq (.seq .none (.seq (.seq .none .none) .none)) (.seq .none .none)))
theorem T12_ok : chkFn prog Try.f12 T12 = true := by kernel_rfl
def B12 (l_p0 : Value) (w : World) (K : Value → World → Prop) : Prop :=
  pvv prog (oEq .eql 23 (.tmp 3) (.const (.pointer none)) l_p0 (.pointer none)) w fun t_0 w =>
  cd t_0 (
    K (.pointer none) w) <|
  pv prog (oNil l_p0) w fun t_1 w =>
  pvv prog (Instr.fieldAt 71 t_1 0) w fun t_2 w =>
  pvv prog (Instr.fieldAt 68 t_2 0) w fun t_3 w =>
  ldv prog (Instr.loadAt 39 t_3) w fun t_4 w =>
  Calls prog 41 #[t_4] w (Ret fun t_5 w =>
  K t_5 w)
theorem B12_eq (l_p0 : Value) (w : World) (K : Value → World → Prop) : denFn prog Try.f12 T12 [l_p0] w K = B12 l_p0 w K := by kernel_rfl
theorem c12 {l_p0 : Value} {w : World} {K : Value → World → Prop} (h : B12 l_p0 w K) : Calls prog 12 #[l_p0] w (Ret K) :=
  denFn_calls Try.func12 T12_ok (Eq.mpr (B12_eq l_p0 w K) h)

-- 45 (*holdfast/block.Disk).Blocks
def T45 : Ann := (.seq .none (.seq (.seq .none (.seq (.seq .none .none) .none)) (.seq .none .none)))
theorem T45_ok : chkFn prog Try.f45 T45 = true := by kernel_rfl
def B45 (d_p0 : Value) (w : World) (K : Value → World → Prop) : Prop :=
  pvv prog (oEq .eql 39 (.tmp 3) (.const (.pointer none)) d_p0 (.pointer none)) w fun t_0 w =>
  cd t_0 (
    K (.int .i64 0) w) <|
  pv prog (oNil d_p0) w fun t_1 w =>
  pvv prog (Instr.fieldAt 86 t_1 0) w fun t_2 w =>
  ldv prog (Instr.loadAt 78 t_2) w fun t_3 w =>
  pv prog (oBi .len #[78] 3 #[false] #[t_3]) w fun t_4 w =>
  K t_4 w
theorem B45_eq (d_p0 : Value) (w : World) (K : Value → World → Prop) : denFn prog Try.f45 T45 [d_p0] w K = B45 d_p0 w K := by kernel_rfl
theorem c45 {d_p0 : Value} {w : World} {K : Value → World → Prop} (h : B45 d_p0 w K) : Calls prog 45 #[d_p0] w (Ret K) :=
  denFn_calls Try.func45 T45_ok (Eq.mpr (B45_eq d_p0 w K) h)

-- 59 (*holdfast/holdfastref03.Log).block
def T59 : Ann := (.seq .none (.seq .none (.seq .none .none)))
theorem T59_ok : chkFn prog Try.f59 T59 = true := by kernel_rfl
def B59 (l_p0 n_p1 : Value) (w : World) (K : Value → World → Prop) : Prop :=
  pv prog (oNil l_p0) w fun t_0 w =>
  pvv prog (Instr.fieldAt 105 t_0 0) w fun t_1 w =>
  ldv prog (Instr.loadAt 58 t_1) w fun t_2 w =>
  Calls prog 82 #[t_2, n_p1] w (Ret fun t_3 w =>
  pvv prog (Instr.extract t_3 0) w fun t_4 w =>
  pvv prog (Instr.extract t_3 1) w fun t_5 w =>
  K t_4 w)
theorem B59_eq (l_p0 n_p1 : Value) (w : World) (K : Value → World → Prop) : denFn prog Try.f59 T59 [l_p0, n_p1] w K = B59 l_p0 n_p1 w K := by kernel_rfl
theorem c59 {l_p0 n_p1 : Value} {w : World} {K : Value → World → Prop} (h : B59 l_p0 n_p1 w K) : Calls prog 59 #[l_p0, n_p1] w (Ret K) :=
  denFn_calls Try.func59 T59_ok (Eq.mpr (B59_eq l_p0 n_p1 w K) h)

-- 19 (*holdfast/wal.Log).Used
def T19 : Ann := (.seq .none (.seq (.seq .none (.seq (.seq .none .none) .none)) (.seq .none .none)))
theorem T19_ok : chkFn prog Try.f19 T19 = true := by kernel_rfl
def B19 (l_p0 : Value) (w : World) (K : Value → World → Prop) : Prop :=
  pvv prog (oEq .eql 23 (.tmp 3) (.const (.pointer none)) l_p0 (.pointer none)) w fun t_0 w =>
  cd t_0 (
    K (.int .i64 0) w) <|
  pv prog (oNil l_p0) w fun t_1 w =>
  pvv prog (Instr.fieldAt 71 t_1 3) w fun t_2 w =>
  ldv prog (Instr.loadAt 3 t_2) w fun t_3 w =>
  K t_3 w
theorem B19_eq (l_p0 : Value) (w : World) (K : Value → World → Prop) : denFn prog Try.f19 T19 [l_p0] w K = B19 l_p0 w K := by kernel_rfl
theorem c19 {l_p0 : Value} {w : World} {K : Value → World → Prop} (h : B19 l_p0 w K) : Calls prog 19 #[l_p0] w (Ret K) :=
  denFn_calls Try.func19 T19_ok (Eq.mpr (B19_eq l_p0 w K) h)

-- 86 math/bits.Len
def T86 : Ann := (.seq .none (.seq (.seq (.seq .none .none) .none) (.seq .none .none)))
theorem T86_ok : chkFn prog Try.f86 T86 = true := by kernel_rfl
def B86 (x_p0 : Value) (w : World) (K : Value → World → Prop) : Prop :=
  cd (.bool false) (
    pvv prog (convert 108 148 x_p0) w fun t_0 w =>
    Calls prog 102 #[t_0] w (Ret fun t_1 w =>
    K t_1 w)) <|
  Calls prog 103 #[x_p0] w (Ret fun t_2 w =>
  K t_2 w)
theorem B86_eq (x_p0 : Value) (w : World) (K : Value → World → Prop) : denFn prog Try.f86 T86 [x_p0] w K = B86 x_p0 w K := by kernel_rfl
theorem c86 {x_p0 : Value} {w : World} {K : Value → World → Prop} (h : B86 x_p0 w K) : Calls prog 86 #[x_p0] w (Ret K) :=
  denFn_calls Try.func86 T86_ok (Eq.mpr (B86_eq x_p0 w K) h)

-- 73 slices.ContainsFunc[[][]byte,[]byte]
def T73 : Ann := (.seq .none (.seq .none .none))
theorem T73_ok : chkFn prog Try.f73 T73 = true := by kernel_rfl
def B73 (s_p0 f_p1 : Value) (w : World) (K : Value → World → Prop) : Prop :=
  Calls prog 89 #[s_p0, f_p1] w (Ret fun t_0 w =>
  pvv prog (binOp .geq 3 t_0 (.int .i64 0)) w fun t_1 w =>
  K t_1 w)
theorem B73_eq (s_p0 f_p1 : Value) (w : World) (K : Value → World → Prop) : denFn prog Try.f73 T73 [s_p0, f_p1] w K = B73 s_p0 f_p1 w K := by kernel_rfl
theorem c73 {s_p0 f_p1 : Value} {w : World} {K : Value → World → Prop} (h : B73 s_p0 f_p1 w K) : Calls prog 73 #[s_p0, f_p1] w (Ret K) :=
  denFn_calls Try.func73 T73_ok (Eq.mpr (B73_eq s_p0 f_p1 w K) h)

-- 42 (*sync/atomic.Int64).Load
def T42 : Ann := (.seq .none (.seq .none .none))
theorem T42_ok : chkFn prog Try.f42 T42 = true := by kernel_rfl
def B42 (x_p0 : Value) (w : World) (K : Value → World → Prop) : Prop :=
  pv prog (oNil x_p0) w fun t_0 w =>
  pvv prog (Instr.fieldAt 84 t_0 2) w fun t_1 w =>
  ef prog (oCall (.func (.func 71) #[] #[]) #[t_1]) w fun t_2 w =>
  K t_2 w
theorem B42_eq (x_p0 : Value) (w : World) (K : Value → World → Prop) : denFn prog Try.f42 T42 [x_p0] w K = B42 x_p0 w K := by kernel_rfl
theorem c42 {x_p0 : Value} {w : World} {K : Value → World → Prop} (h : B42 x_p0 w K) : Calls prog 42 #[x_p0] w (Ret K) :=
  denFn_calls Try.func42 T42_ok (Eq.mpr (B42_eq x_p0 w K) h)

-- 92 holdfast/holdfastref01.Copy
def T92 : Ann := (.seq .none (.seq .none (.seq .none .none)))
theorem T92_ok : chkFn prog Try.f92 T92 = true := by kernel_rfl
def B92 (b_p0 : Value) (w : World) (K : Value → World → Prop) : Prop :=
  ef prog (oBi .append #[33, 33] 33 #[false, false] #[(.slice none 0 0), b_p0]) w fun t_0 w =>
  K t_0 w
theorem B92_eq (b_p0 : Value) (w : World) (K : Value → World → Prop) : denFn prog Try.f92 T92 [b_p0] w K = B92 b_p0 w K := by kernel_rfl
theorem c92 {b_p0 : Value} {w : World} {K : Value → World → Prop} (h : B92 b_p0 w K) : Calls prog 92 #[b_p0] w (Ret K) :=
  denFn_calls Try.func92 T92_ok (Eq.mpr (B92_eq b_p0 w K) h)


end Go.Proofs.Ytgkeplodfkmnlaa
