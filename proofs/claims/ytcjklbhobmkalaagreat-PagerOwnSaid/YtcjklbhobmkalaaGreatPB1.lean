import Derived.Test.YtcjklbhobmkalaaGreatPI
set_option linter.all false
set_option maxRecDepth 100000
namespace Go.Proofs.YtcjklbhobmkalaaGreat
open Go Hold
-- 43 (*holdfast/wal.Log).Commit
def T43 : Ann := (.seq .none (.seq (.block (.seq .none (.seq (.seq .none .none) (.seq .none (.seq (.seq .none .none) (.seq .none (.seq (.seq .none .none) (.seq .none (.seq (.seq .none .none) .none))))))))) (.seq .none (.seq (.seq .none (.block (.loop 18014389919547536 [33] (.seq .none (.seq (.seq .none .none) (.seq (.block (.seq .none (.seq (.seq .none (.seq (.seq .none .none) .none)) .none))) .none)))))) (.seq (.seq (.draw [.op 0 .pure, .op 1 .pure, .op 3 .load, .op 4 .pure, .op 5 .pure, .op 6 .load, .op 7 .load, .op 8 .pure, .op 9 .pure, .op 10 .load, .op 11 .pure, .op 2 .eff, .op 12 .pure]) (.seq (.seq .none .none) .none)) (.seq .none (.seq .none (.seq .none (.seq (.seq .none (.block (.loop 19806738397111180741092314112 [78] (.seq .none (.seq (.seq .none .none) (.seq (.block (.seq .none .none)) .none)))))) (.seq .none (.seq .none (.seq (.seq .none (.block (.loop 174224571214483385976394345438753283137536 [109] (.seq .none (.seq (.seq .none .none) (.seq (.block (.seq .none (.seq (.draw [.op 5 .pure, .op 6 .pure, .op 7 .pure, .op 8 .pure, .op 9 .pure, .op 10 .pure, .op 0 .load, .op 1 .pure, .op 2 .pure, .op 3 .pure, .op 4 .load, .op 11 .load, .op 12 .eff]) .none))) .none)))))) (.seq (.draw [.op 4 .pure, .op 5 .pure, .op 0 .load, .op 1 .pure, .op 2 .pure, .op 3 .load, .op 6 .eff, .op 7 .pure, .op 8 .pure, .op 9 .pure, .op 10 .eff]) (.seq .none (.seq .none (.seq .none .none))))))))))))))))
theorem T43_ok : chkFn prog Tryz.f43 T43 = true := by kernel_rfl
def B43 (l_p0 pages_p1 : Value) (w : World) (K : Value → World → Prop) : Prop :=
  efv prog (Instr.box 42 l_p0) w fun l_0 w =>
  ldv prog (Instr.loadAt 42 l_0) w fun t_1 w =>
  pvv prog (oEq .eql 42 (.tmp 16) (.const (.pointer none)) t_1 (.pointer none)) w fun t_2 w =>
  cd t_2 (
    K (.int .i64 1) w) <|
  pv prog (oBi .len #[84] 3 #[false] #[pages_p1]) w fun t_3 w =>
  pvv prog (oEq .eql 3 (.tmp 20) (.const (.int .i64 0)) t_3 (.int .i64 0)) w fun t_4 w =>
  cd t_4 (
    K (.int .i64 0) w) <|
  pv prog (oBi .len #[84] 3 #[false] #[pages_p1]) w fun t_5 w =>
  pvv prog (binOp .gtr 3 t_5 (.int .i64 100)) w fun t_6 w =>
  cd t_6 (
    K (.int .i64 6) w) <|
  pvv prog (Instr.makeFunc (.func 74) #[] #[l_0]) w fun t_7 w =>
  Calls prog 73 #[pages_p1, t_7] w (Ret fun t_8 w =>
  cd t_8 (
    K (.int .i64 2) w) <|
  efv prog (Instr.makeMap 72 none) w fun t_9 w =>
  pv prog (oBi .len #[84] 3 #[false] #[pages_p1]) w fun t_10 w =>
  lp (fun σ w again_12 => pop σ fun t_11 σ => fin σ <|
    pvv prog (binOp .lss 3 t_11 t_10) w fun t_13 w =>
    cd t_13 (
      pvv prog (Instr.indexAt 84 pages_p1 t_11) w fun t_14 w =>
      ldv prog (Instr.loadAt 86 t_14) w fun t_15 w =>
      efv prog (Instr.alloc 86 true (.tuple #[])) w fun p_16 w =>
      efu prog (Instr.storeAt 86 p_16 t_15) w fun u_17 w =>
      pvv prog (Instr.fieldAt 86 p_16 0) w fun t_18 w =>
      ldv prog (Instr.loadAt 3 t_18) w fun t_19 w =>
      ldv prog (Instr.lookup 72 t_9 t_19 false) w fun t_20 w =>
      pvv prog (oEq .neq 30 (.tmp 40) (.const (.slice none 0 0)) t_20 (.slice none 0 0)) w fun t_21 w =>
      gate (some (t_21, false)) (fun K => pvv prog (Instr.fieldAt 86 p_16 1) w K) w fun t_22 w =>
      gate (some (t_21, false)) (fun K => ldv prog (Instr.loadAt 30 t_22) w K) w fun t_23 w =>
      gate (some (t_21, false)) (fun K => pv prog (oBi .len #[30] 3 #[false] #[t_23]) w K) w fun t_24 w =>
      gate (some (t_21, false)) (fun K => pvv prog (oEq .neq 3 (.tmp 45) (.const (.int .i64 256)) t_24 (.int .i64 256)) w K) w fun t_25 w =>
      pv prog (oPick t_21 (.bool true) t_25) w fun t_26 w =>
      cd t_26 (
        K (.int .i64 3) w) <|
      pvv prog (Instr.fieldAt 86 p_16 0) w fun t_27 w =>
      ldv prog (Instr.loadAt 3 t_27) w fun t_28 w =>
      pvv prog (Instr.fieldAt 86 p_16 1) w fun t_29 w =>
      ldv prog (Instr.loadAt 30 t_29) w fun t_30 w =>
      efu prog (Instr.mapUpdate 72 t_9 t_28 t_30) w fun u_31 w =>
      pvv prog (binOp .add 3 t_11 (.int .i64 1)) w fun t_32 w =>
      again_12 [t_32] w) <|
    dr w fun w =>
    pv prog (oBi .len #[84] 3 #[false] #[pages_p1]) w fun t_33 w =>
    bindS (vN (Instr.loadAt 42 l_0)) fun m_35 => ldv prog (Instr.loadAt 42 l_0) w fun t_34 w =>
    pv prog (oNil t_34) w fun t_36 w =>
    pvv prog (Instr.fieldAt 97 t_36 1) w fun t_37 w =>
    bindS (vN (Instr.loadAt 3 t_37)) fun m_39 => ldv prog (Instr.loadAt 3 t_37) w fun t_38 w =>
    bindS (vN (Instr.loadAt 42 l_0)) fun m_41 => ldv prog (Instr.loadAt 42 l_0) w fun t_40 w =>
    pv prog (oNil t_40) w fun t_42 w =>
    pvv prog (Instr.fieldAt 97 t_42 3) w fun t_43 w =>
    bindS (vN (Instr.loadAt 3 t_43)) fun m_45 => ldv prog (Instr.loadAt 3 t_43) w fun t_44 w =>
    pvv prog (binOp .sub 3 t_38 t_44) w fun t_46 w =>
    Calls prog 75 #[t_33] w (Ret fun t_47 w => stay prog none m_45 t_44 w <| stay prog none m_41 t_40 w <| stay prog none m_39 t_38 w <| stay prog none m_35 t_34 w <| 
    pvv prog (binOp .gtr 3 t_47 t_46) w fun t_48 w =>
    cd t_48 (
      K (.int .i64 7) w) <|
    efv prog (Instr.makeSlice 30 (.int .i64 256) (.int .i64 256)) w fun t_49 w =>
    pvv prog (Instr.sliceAt 30 t_49 none (some (.int .i64 2)) none) w fun t_50 w =>
    pv prog (oBi .len #[84] 3 #[false] #[pages_p1]) w fun t_51 w =>
    Calls prog 76 #[t_50, t_51] w (Ret fun t_52 w =>
    Calls prog 46 #[t_9] w (Ret fun t_53 w =>
    Calls prog 45 #[t_53] w (Ret fun t_54 w =>
    pv prog (oBi .len #[22] 3 #[false] #[t_54]) w fun t_55 w =>
    lp (fun σ w again_57 => pop σ fun t_56 σ => fin σ <|
      pvv prog (binOp .lss 3 t_56 t_55) w fun t_58 w =>
      cd t_58 (
        pvv prog (Instr.indexAt 22 t_54 t_56) w fun t_59 w =>
        ldv prog (Instr.loadAt 3 t_59) w fun t_60 w =>
        pvv prog (binOp .mul 3 (.int .i64 2) t_56) w fun t_61 w =>
        pvv prog (binOp .add 3 (.int .i64 2) t_61) w fun t_62 w =>
        pvv prog (binOp .mul 3 (.int .i64 2) t_56) w fun t_63 w =>
        pvv prog (binOp .add 3 (.int .i64 4) t_63) w fun t_64 w =>
        pvv prog (Instr.sliceAt 30 t_49 (some t_62) (some t_64) none) w fun t_65 w =>
        Calls prog 76 #[t_65, t_60] w (Ret fun t_66 w =>
        pvv prog (binOp .add 3 t_56 (.int .i64 1)) w fun t_67 w =>
        again_57 [t_67] w)) <|
      ldv prog (Instr.loadAt 42 l_0) w fun t_68 w =>
      pv prog (oNil t_68) w fun t_69 w =>
      pvv prog (Instr.fieldAt 97 t_69 3) w fun t_70 w =>
      ldv prog (Instr.loadAt 3 t_70) w fun t_71 w =>
      pvv prog (binOp .add 3 t_71 (.int .i64 1)) w fun t_72 w =>
      ldv prog (Instr.loadAt 42 l_0) w fun t_73 w =>
      pv prog (oNil t_73) w fun t_74 w =>
      pvv prog (Instr.fieldAt 97 t_74 0) w fun t_75 w =>
      pvv prog (Instr.fieldAt 94 t_75 0) w fun t_76 w =>
      ldv prog (Instr.loadAt 48 t_76) w fun t_77 w =>
      Calls prog 77 #[t_77, t_72, t_49] w (Ret fun t_78 w =>
      pv prog (oBi .len #[22] 3 #[false] #[t_54]) w fun t_79 w =>
      lp (fun σ w again_81 => pop σ fun t_80 σ => fin σ <|
        pvv prog (binOp .lss 3 t_80 t_79) w fun t_82 w =>
        cd t_82 (
          pvv prog (Instr.indexAt 22 t_54 t_80) w fun t_83 w =>
          ldv prog (Instr.loadAt 3 t_83) w fun t_84 w =>
          dr w fun w =>
          pvv prog (binOp .add 3 t_72 (.int .i64 1)) w fun t_85 w =>
          pvv prog (binOp .add 3 t_85 t_80) w fun t_86 w =>
          bindS (vN (Instr.loadAt 42 l_0)) fun m_88 => ldv prog (Instr.loadAt 42 l_0) w fun t_87 w =>
          pv prog (oNil t_87) w fun t_89 w =>
          pvv prog (Instr.fieldAt 97 t_89 0) w fun t_90 w =>
          pvv prog (Instr.fieldAt 94 t_90 0) w fun t_91 w =>
          bindS (vN (Instr.loadAt 48 t_91)) fun m_93 => ldv prog (Instr.loadAt 48 t_91) w fun t_92 w =>
          bindS (vN (Instr.lookup 72 t_9 t_84 false)) fun m_95 => ldv prog (Instr.lookup 72 t_9 t_84 false) w fun t_94 w =>
          Calls prog 77 #[t_92, t_86, t_94] w (Ret fun t_96 w => stay prog none m_88 t_87 w <| 
          ldv prog (Instr.loadAt 42 l_0) w fun t_97 w =>
          pv prog (oNil t_97) w fun t_98 w =>
          pvv prog (Instr.fieldAt 97 t_98 4) w fun t_99 w =>
          ldv prog (Instr.loadAt 95 t_99) w fun t_100 w =>
          pvv prog (binOp .add 3 t_72 (.int .i64 1)) w fun t_101 w =>
          pvv prog (binOp .add 3 t_101 t_80) w fun t_102 w =>
          efu prog (Instr.mapUpdate 95 t_100 t_84 t_102) w fun u_103 w =>
          pvv prog (binOp .add 3 t_80 (.int .i64 1)) w fun t_104 w =>
          again_81 [t_104] w)) <|
        dr w fun w =>
        pv prog (oBi .len #[84] 3 #[false] #[pages_p1]) w fun t_106 w =>
        bindS (vN (Instr.loadAt 42 l_0)) fun m_108 => ldv prog (Instr.loadAt 42 l_0) w fun t_107 w =>
        pv prog (oNil t_107) w fun t_109 w =>
        pvv prog (Instr.fieldAt 97 t_109 3) w fun t_110 w =>
        bindS (vN (Instr.loadAt 3 t_110)) fun m_112 => ldv prog (Instr.loadAt 3 t_110) w fun t_111 w =>
        Calls prog 75 #[t_106] w (Ret fun t_113 w => stay prog none m_112 t_111 w <| stay prog none m_108 t_107 w <| 
        pvv prog (binOp .add 3 t_111 t_113) w fun t_114 w =>
        pv prog (oNil t_107) w fun t_115 w =>
        pvv prog (Instr.fieldAt 97 t_115 3) w fun t_116 w =>
        efu prog (Instr.storeAt 3 t_116 t_114) w fun u_117 w =>
        ldv prog (Instr.loadAt 42 l_0) w fun t_118 w =>
        pv prog (oNil t_118) w fun t_119 w =>
        pvv prog (Instr.fieldAt 97 t_119 2) w fun t_120 w =>
        ldv prog (Instr.loadAt 3 t_120) w fun t_121 w =>
        pvv prog (binOp .add 3 t_121 (.int .i64 1)) w fun t_122 w =>
        pv prog (oNil t_118) w fun t_123 w =>
        pvv prog (Instr.fieldAt 97 t_123 2) w fun t_124 w =>
        efu prog (Instr.storeAt 3 t_124 t_122) w fun u_125 w =>
        ldv prog (Instr.loadAt 42 l_0) w fun t_126 w =>
        Calls prog 78 #[t_126] w (Ret fun t_127 w =>
        K (.int .i64 0) w))) [(.int .i64 0)] w)) [(.int .i64 0)] w))))) [(.int .i64 0)] w)
theorem B43_eq (l_p0 pages_p1 : Value) (w : World) (K : Value → World → Prop) : denFn prog Tryz.f43 T43 [l_p0, pages_p1] w K = B43 l_p0 pages_p1 w K := by kernel_rfl
theorem c43 {l_p0 pages_p1 : Value} {w : World} {K : Value → World → Prop} (h : B43 l_p0 pages_p1 w K) : Calls prog 43 #[l_p0, pages_p1] w (Ret K) :=
  denFn_calls Tryz.func43 T43_ok (Eq.mpr (B43_eq l_p0 pages_p1 w K) h)

-- 101 slices.pdqsortOrdered[int]
def T101 : Ann := (.seq .none (.seq .none (.block (.loop 21778071482940061661655974875633165532942 [1, 2, 3, 8, 9] (.block (.seq .none (.seq (.seq .none (.seq (.seq .none .none) .none)) (.seq (.seq .none (.seq (.seq .none .none) .none)) (.meet 4380866641928 [3] (.seq .none (.seq (.seq .none .none) .none)) (.seq .none (.meet 2305280059260278784 [11, 12] (.seq .none (.seq (.seq .none (.seq .none .none)) .none)) (.meet 9442427122730076733440 [] (.seq .none (.seq (.seq .none (.seq .none .none)) .none)) (.seq (.seq (.draw [.op 0 .pure, .op 1 .pure, .op 2 .pure, .op 3 .pure, .op 4 .pure, .op 5 .pure, .op 6 .pure, .op 8 .pure, .op 9 .pure, .op 10 .pure, .op 7 .load, .op 11 .load, .op 12 .eff, .op 13 .pure, .op 14 .pure]) (.seq (.seq .none (.seq .none .none)) .none)) (.seq .none (.seq .none (.seq .none (.seq .none (.seq .none (.seq (.seq .none (.seq .none .none)) (.seq .none (.seq .none .none)))))))))))))))))))))
theorem T101_ok : chkFn prog Tryz.f101 T101 = true := by kernel_rfl
def B101 (data_p0 a_p1 b_p2 limit_p3 : Value) (w : World) (K : Value → World → Prop) : Prop :=
  lp (fun σ w again_5 => pop σ fun a_0 σ => pop σ fun b_1 σ => pop σ fun limit_2 σ => pop σ fun wasBalanced_3 σ => pop σ fun wasPartitioned_4 σ => fin σ <|
    pvv prog (binOp .sub 3 b_1 a_0) w fun t_6 w =>
    pvv prog (binOp .leq 3 t_6 (.int .i64 12)) w fun t_7 w =>
    cd t_7 (
      Calls prog 108 #[data_p0, a_0, b_1] w (Ret fun t_8 w =>
      K (.tuple #[]) w)) <|
    pvv prog (oEq .eql 3 (.tmp 28) (.const (.int .i64 0)) limit_2 (.int .i64 0)) w fun t_9 w =>
    cd t_9 (
      Calls prog 109 #[data_p0, a_0, b_1] w (Ret fun t_10 w =>
      K (.tuple #[]) w)) <|
    jn (fun σ w => pop σ fun limit_11 σ => fin σ <|
      Calls prog 111 #[data_p0, a_0, b_1] w (Ret fun t_12 w =>
      pvv prog (Instr.extract t_12 0) w fun t_13 w =>
      pvv prog (Instr.extract t_12 1) w fun t_14 w =>
      jn (fun σ w => pop σ fun pivot_15 σ => pop σ fun hint_16 σ => fin σ <|
        jn (fun σ w => fin σ <|
          dr w fun w =>
          pvv prog (binOp .gtr 3 a_0 (.int .i64 0)) w fun t_17 w =>
          gate (some (t_17, true)) (fun K => K data_p0 w) w fun t_18 w =>
          gate (some (t_17, true)) (fun K => K a_0 w) w fun t_19 w =>
          gate (some (t_17, true)) (fun K => pvv prog (binOp .sub 3 t_19 (.int .i64 1)) w K) w fun t_20 w =>
          gate (some (t_17, true)) (fun K => pvv prog (Instr.indexAt 22 t_18 t_20) w K) w fun t_21 w =>
          gate (some (t_17, true)) (fun K => K data_p0 w) w fun t_22 w =>
          gate (some (t_17, true)) (fun K => K pivot_15 w) w fun t_23 w =>
          gate (some (t_17, true)) (fun K => pvv prog (Instr.indexAt 22 t_22 t_23) w K) w fun t_24 w =>
          bindS (vN (Instr.loadAt 3 t_21)) fun m_26 => gate (some (t_17, true)) (fun K => ldv prog (Instr.loadAt 3 t_21) w K) w fun t_25 w =>
          bindS (vN (Instr.loadAt 3 t_24)) fun m_28 => gate (some (t_17, true)) (fun K => ldv prog (Instr.loadAt 3 t_24) w K) w fun t_27 w =>
          gate (some (t_17, true)) (fun K => Calls prog 114 #[t_25, t_27] w (Ret fun s_46 w => K s_46 w)) w fun t_29 w =>
          gate (some (t_17, true)) (fun K => pvv prog (Op.unary .not t_29) w K) w fun t_30 w =>
          pv prog (oPick t_17 t_30 (.bool false)) w fun t_31 w =>
          cd t_31 (
            Calls prog 115 #[data_p0, a_0, b_1, pivot_15] w (Ret fun t_32 w =>
            again_5 [t_32, b_1, limit_11, wasBalanced_3, wasPartitioned_4] w)) <|
          Calls prog 116 #[data_p0, a_0, b_1, pivot_15] w (Ret fun t_33 w =>
          pvv prog (Instr.extract t_33 0) w fun t_34 w =>
          pvv prog (Instr.extract t_33 1) w fun t_35 w =>
          pvv prog (binOp .sub 3 t_34 a_0) w fun t_36 w =>
          pvv prog (binOp .sub 3 b_1 t_34) w fun t_37 w =>
          pvv prog (binOp .quo 3 t_6 (.int .i64 8)) w fun t_38 w =>
          pvv prog (binOp .lss 3 t_36 t_37) w fun t_39 w =>
          cd t_39 (
            pvv prog (binOp .geq 3 t_36 t_38) w fun t_40 w =>
            Calls prog 101 #[data_p0, a_0, t_34, limit_11] w (Ret fun t_41 w =>
            pvv prog (binOp .add 3 t_34 (.int .i64 1)) w fun t_42 w =>
            again_5 [t_42, b_1, limit_11, t_40, t_35] w)) <|
          pvv prog (binOp .geq 3 t_37 t_38) w fun t_43 w =>
          pvv prog (binOp .add 3 t_34 (.int .i64 1)) w fun t_44 w =>
          Calls prog 101 #[data_p0, t_44, b_1, limit_11] w (Ret fun t_45 w =>
          again_5 [a_0, t_34, limit_11, t_43, t_35] w))) fun k_47 =>
        gate (some (wasBalanced_3, true)) (fun K => K wasPartitioned_4 w) w fun t_48 w =>
        pv prog (oPick wasBalanced_3 t_48 (.bool false)) w fun t_49 w =>
        gate (some (t_49, true)) (fun K => K hint_16 w) w fun t_50 w =>
        gate (some (t_49, true)) (fun K => pvv prog (oEq .eql 157 (.tmp 66) (.const (.int .i64 1)) t_50 (.int .i64 1)) w K) w fun t_51 w =>
        pv prog (oPick t_49 t_51 (.bool false)) w fun t_52 w =>
        cd t_52 (
          Calls prog 113 #[data_p0, a_0, b_1] w (Ret fun t_53 w =>
          cd t_53 (
            K (.tuple #[]) w) <|
          k_47 [] w)) <|
        k_47 [] w) fun k_54 =>
      pvv prog (oEq .eql 157 (.tmp 49) (.const (.int .i64 2)) t_14 (.int .i64 2)) w fun t_55 w =>
      cd t_55 (
        Calls prog 112 #[data_p0, a_0, b_1] w (Ret fun t_56 w =>
        pvv prog (binOp .sub 3 b_1 (.int .i64 1)) w fun t_57 w =>
        pvv prog (binOp .sub 3 t_13 a_0) w fun t_58 w =>
        pvv prog (binOp .sub 3 t_57 t_58) w fun t_59 w =>
        k_54 [t_59, (.int .i64 1)] w)) <|
      k_54 [t_13, t_14] w)) fun k_60 =>
    pvv prog (Op.unary .not wasBalanced_3) w fun t_61 w =>
    cd t_61 (
      Calls prog 110 #[data_p0, a_0, b_1] w (Ret fun t_62 w =>
      pvv prog (binOp .sub 3 limit_2 (.int .i64 1)) w fun t_63 w =>
      k_60 [t_63] w)) <|
    k_60 [limit_2] w) [a_p1, b_p2, limit_p3, (.bool true), (.bool true)] w
theorem B101_eq (data_p0 a_p1 b_p2 limit_p3 : Value) (w : World) (K : Value → World → Prop) : denFn prog Tryz.f101 T101 [data_p0, a_p1, b_p2, limit_p3] w K = B101 data_p0 a_p1 b_p2 limit_p3 w K := by kernel_rfl
theorem c101 {data_p0 a_p1 b_p2 limit_p3 : Value} {w : World} {K : Value → World → Prop} (h : B101 data_p0 a_p1 b_p2 limit_p3 w K) : Calls prog 101 #[data_p0, a_p1, b_p2, limit_p3] w (Ret K) :=
  denFn_calls Tryz.func101 T101_ok (Eq.mpr (B101_eq data_p0 a_p1 b_p2 limit_p3 w K) h)

-- 6 holdfast/holdfastlaw04.PagerPins
def T6 : Ann := (.seq .none (.seq .none (.seq (.seq .none (.seq (.seq .none .none) .none)) (.seq .none (.seq (.seq .none (.block (.loop 35184304980736 [8, 9] (.seq (.seq .none (.seq .none .none)) (.seq (.block .none) .none))))) (.seq (.seq .none (.seq (.seq .none .none) .none)) (.seq (.seq .none (.block (.loop 39614081257131605846818585616 [10] (.seq (.seq .none (.seq .none .none)) (.seq (.block (.seq .none (.seq .none (.seq .none (.block (.loop 39614080666836358438066352144 [12] (.seq (.seq .none (.seq .none .none)) (.seq (.block (.seq .none (.seq (.seq .none (.block (.loop 9903482535351179242031308800 [13, 14] (.seq (.seq .none (.seq .none .none)) (.seq (.block (.draw [.op 0 .pure, .op 1 .pure, .op 2 .pure, .op 3 .pure, .op 4 .pure, .op 6 .pure, .op 7 .pure, .op 8 .pure, .op 5 .load, .op 9 .load, .op 10 .pure, .op 11 .pure, .op 12 .pure])) .none))))) (.seq .none (.seq (.seq .none .none) .none))))) .none)))))))) .none))))) (.seq .none .none))))))))
theorem T6_ok : chkFn prog Tryz.f6 T6 = true := by kernel_rfl
def B6 (pins_p0 reads_p1 : Value) (w : World) (K : Value → World → Prop) : Prop :=
  Calls prog 9 #[(.int .i64 10), (.int .i64 4)] w (Ret fun t_0 w =>
  pvv prog (Instr.extract t_0 0) w fun t_1 w =>
  pvv prog (Instr.extract t_0 1) w fun t_2 w =>
  pvv prog (Instr.extract t_0 2) w fun t_3 w =>
  Calls prog 10 #[] w (Ret fun t_4 w =>
  pvv prog (Op.unary .not t_4) w fun t_5 w =>
  gate (some (t_5, false)) (fun K => K t_3 w) w fun t_6 w =>
  gate (some (t_5, false)) (fun K => pvv prog (Op.unary .not t_6) w K) w fun t_7 w =>
  pv prog (oPick t_5 (.bool true) t_7) w fun t_8 w =>
  cd t_8 (
    K (.bool false) w) <|
  lp (fun σ w again_11 => pop σ fun l_9 σ => pop σ fun i_10 σ => fin σ <|
    pv prog (oBi .len #[30] 3 #[false] #[pins_p0]) w fun t_12 w =>
    pvv prog (binOp .lss 3 i_10 t_12) w fun t_13 w =>
    gate (some (t_13, true)) (fun K => K i_10 w) w fun t_14 w =>
    gate (some (t_13, true)) (fun K => pvv prog (binOp .lss 3 t_14 (.int .i64 3)) w K) w fun t_15 w =>
    pv prog (oPick t_13 t_15 (.bool false)) w fun t_16 w =>
    cd t_16 (
      pvv prog (Instr.indexAt 30 pins_p0 i_10) w fun t_17 w =>
      ldv prog (Instr.loadAt 5 t_17) w fun t_18 w =>
      pvv prog (convert 5 3 t_18) w fun t_19 w =>
      pvv prog (binOp .rem 3 t_19 (.int .i64 11)) w fun t_20 w =>
      efv prog (Instr.buildSlice 22 1 #[(0, t_20)]) w fun t_21 w =>
      ef prog (oBi .append #[22, 22] 22 #[false, false] #[l_9, t_21]) w fun t_22 w =>
      pvv prog (binOp .add 3 i_10 (.int .i64 1)) w fun t_23 w =>
      again_11 [t_22, t_23] w) <|
    Calls prog 25 #[t_1, l_9] w (Ret fun t_24 w =>
    pvv prog (oEq .neq 32 (.tmp 47) (.const (.int .i64 0)) t_24 (.int .i64 0)) w fun t_25 w =>
    cd t_25 (
      K (.bool false) w) <|
    lp (fun σ w again_27 => pop σ fun i_26 σ => fin σ <|
      pv prog (oBi .len #[30] 3 #[false] #[reads_p1]) w fun t_28 w =>
      pvv prog (binOp .lss 3 i_26 t_28) w fun t_29 w =>
      gate (some (t_29, true)) (fun K => K i_26 w) w fun t_30 w =>
      gate (some (t_29, true)) (fun K => pvv prog (binOp .lss 3 t_30 (.int .i64 60)) w K) w fun t_31 w =>
      pv prog (oPick t_29 t_31 (.bool false)) w fun t_32 w =>
      cd t_32 (
        pvv prog (Instr.indexAt 30 reads_p1 i_26) w fun t_33 w =>
        ldv prog (Instr.loadAt 5 t_33) w fun t_34 w =>
        pvv prog (convert 5 3 t_34) w fun t_35 w =>
        pvv prog (binOp .rem 3 t_35 (.int .i64 11)) w fun t_36 w =>
        Calls prog 14 #[t_1, t_36] w (Ret fun t_37 w =>
        Calls prog 21 #[t_1] w (Ret fun t_38 w =>
        lp (fun σ w again_40 => pop σ fun k_39 σ => fin σ <|
          pv prog (oBi .len #[22] 3 #[false] #[l_9]) w fun t_41 w =>
          pvv prog (binOp .lss 3 k_39 t_41) w fun t_42 w =>
          cd t_42 (
            lp (fun σ w again_45 => pop σ fun in_43 σ => pop σ fun j_44 σ => fin σ <|
              pv prog (oBi .len #[22] 3 #[false] #[t_38]) w fun t_46 w =>
              pvv prog (binOp .lss 3 j_44 t_46) w fun t_47 w =>
              cd t_47 (
                dr w fun w =>
                gate (some (in_43, false)) (fun K => K t_38 w) w fun t_48 w =>
                gate (some (in_43, false)) (fun K => K j_44 w) w fun t_49 w =>
                gate (some (in_43, false)) (fun K => pvv prog (Instr.indexAt 22 t_48 t_49) w K) w fun t_50 w =>
                gate (some (in_43, false)) (fun K => K l_9 w) w fun t_51 w =>
                gate (some (in_43, false)) (fun K => K k_39 w) w fun t_52 w =>
                gate (some (in_43, false)) (fun K => pvv prog (Instr.indexAt 22 t_51 t_52) w K) w fun t_53 w =>
                bindS (vN (Instr.loadAt 3 t_50)) fun m_55 => gate (some (in_43, false)) (fun K => ldv prog (Instr.loadAt 3 t_50) w K) w fun t_54 w =>
                bindS (vN (Instr.loadAt 3 t_53)) fun m_57 => gate (some (in_43, false)) (fun K => ldv prog (Instr.loadAt 3 t_53) w K) w fun t_56 w =>
                gate (some (in_43, false)) (fun K => pvv prog (oEq .eql 3 (.tmp 86) (.tmp 90) t_54 t_56) w K) w fun t_58 w =>
                pv prog (oPick in_43 (.bool true) t_58) w fun t_59 w =>
                pvv prog (binOp .add 3 j_44 (.int .i64 1)) w fun t_60 w =>
                again_45 [t_59, t_60] w) <|
              pvv prog (Op.unary .not in_43) w fun t_61 w =>
              cd t_61 (
                K (.bool false) w) <|
              pvv prog (binOp .add 3 k_39 (.int .i64 1)) w fun t_62 w =>
              again_40 [t_62] w) [(.bool false), (.int .i64 0)] w) <|
          pvv prog (binOp .add 3 i_26 (.int .i64 1)) w fun t_63 w =>
          again_27 [t_63] w) [(.int .i64 0)] w))) <|
      K (.bool true) w) [(.int .i64 0)] w)) [(.slice none 0 0), (.int .i64 0)] w))
theorem B6_eq (pins_p0 reads_p1 : Value) (w : World) (K : Value → World → Prop) : denFn prog Tryz.f6 T6 [pins_p0, reads_p1] w K = B6 pins_p0 reads_p1 w K := by kernel_rfl
theorem c6 {pins_p0 reads_p1 : Value} {w : World} {K : Value → World → Prop} (h : B6 pins_p0 reads_p1 w K) : Calls prog 6 #[pins_p0, reads_p1] w (Ret K) :=
  denFn_calls Tryz.func6 T6_ok (Eq.mpr (B6_eq pins_p0 reads_p1 w K) h)

-- 119 slices.siftDownOrdered[int]
def T119 : Ann := (.seq .none (.block (.loop 75557863725914323417856 [8] (.block (.seq .none (.seq (.seq .none (.seq .none .none)) (.meet 549755683328 [9] (.seq (.draw [.op 0 .pure, .op 1 .pure, .op 2 .pure, .op 3 .pure, .op 4 .pure, .op 5 .pure, .op 6 .pure, .op 7 .pure, .op 8 .pure, .op 9 .pure, .op 11 .pure, .op 12 .pure, .op 13 .pure, .op 14 .pure, .op 15 .pure, .op 16 .pure, .op 10 .load, .op 17 .load, .op 18 .eff, .op 19 .pure]) (.seq .none .none)) (.seq (.seq (.draw [.op 0 .pure, .op 1 .pure, .op 2 .pure, .op 3 .pure, .op 4 .pure, .op 6 .pure, .op 7 .pure, .op 8 .pure, .op 9 .pure, .op 10 .pure, .op 5 .load, .op 11 .load, .op 12 .eff, .op 13 .pure]) (.seq .none .none)) (.seq (.draw [.op 0 .pure, .op 1 .pure, .op 2 .pure, .op 3 .pure, .op 4 .pure, .op 5 .pure, .op 6 .pure, .op 7 .pure, .op 8 .pure, .op 9 .pure, .op 10 .pure, .op 11 .pure, .op 12 .pure, .op 14 .pure, .op 15 .pure, .op 16 .pure, .op 17 .pure, .op 18 .pure, .op 13 .load, .op 19 .load, .op 20 .pure, .op 21 .eff, .op 22 .pure, .op 23 .eff]) .none)))))))))
theorem T119_ok : chkFn prog Tryz.f119 T119 = true := by kernel_rfl
def B119 (data_p0 lo_p1 hi_p2 first_p3 : Value) (w : World) (K : Value → World → Prop) : Prop :=
  lp (fun σ w again_1 => pop σ fun root_0 σ => fin σ <|
    pvv prog (binOp .mul 3 (.int .i64 2) root_0) w fun t_2 w =>
    pvv prog (binOp .add 3 t_2 (.int .i64 1)) w fun t_3 w =>
    pvv prog (binOp .geq 3 t_3 hi_p2) w fun t_4 w =>
    cd t_4 (
      K (.tuple #[]) w) <|
    jn (fun σ w => pop σ fun child_5 σ => fin σ <|
      dr w fun w =>
      pvv prog (binOp .add 3 first_p3 root_0) w fun t_6 w =>
      pvv prog (Instr.indexAt 22 data_p0 t_6) w fun t_7 w =>
      pvv prog (binOp .add 3 first_p3 child_5) w fun t_8 w =>
      pvv prog (Instr.indexAt 22 data_p0 t_8) w fun t_9 w =>
      bindS (vN (Instr.loadAt 3 t_7)) fun m_11 => ldv prog (Instr.loadAt 3 t_7) w fun t_10 w =>
      bindS (vN (Instr.loadAt 3 t_9)) fun m_13 => ldv prog (Instr.loadAt 3 t_9) w fun t_12 w =>
      Calls prog 114 #[t_10, t_12] w (Ret fun t_14 w =>
      pvv prog (Op.unary .not t_14) w fun t_15 w =>
      cd t_15 (
        K (.tuple #[]) w) <|
      dr w fun w =>
      pvv prog (binOp .add 3 first_p3 root_0) w fun t_16 w =>
      pvv prog (binOp .add 3 first_p3 child_5) w fun t_17 w =>
      pvv prog (binOp .add 3 first_p3 child_5) w fun t_18 w =>
      pvv prog (Instr.indexAt 22 data_p0 t_18) w fun t_19 w =>
      pvv prog (binOp .add 3 first_p3 root_0) w fun t_20 w =>
      pvv prog (Instr.indexAt 22 data_p0 t_20) w fun t_21 w =>
      bindS (vN (Instr.loadAt 3 t_19)) fun m_23 => ldv prog (Instr.loadAt 3 t_19) w fun t_22 w =>
      bindS (vN (Instr.loadAt 3 t_21)) fun m_25 => ldv prog (Instr.loadAt 3 t_21) w fun t_24 w =>
      pvv prog (Instr.indexAt 22 data_p0 t_16) w fun t_26 w =>
      efu prog (Instr.storeAt 3 t_26 t_22) w fun u_27 w =>
      pvv prog (Instr.indexAt 22 data_p0 t_17) w fun t_28 w =>
      efu prog (Instr.storeAt 3 t_28 t_24) w fun u_29 w =>
      again_1 [child_5] w)) fun k_33 =>
    dr w fun w =>
    pvv prog (binOp .add 3 t_3 (.int .i64 1)) w fun t_34 w =>
    pvv prog (binOp .lss 3 t_34 hi_p2) w fun t_35 w =>
    gate (some (t_35, true)) (fun K => K data_p0 w) w fun t_36 w =>
    gate (some (t_35, true)) (fun K => K first_p3 w) w fun t_37 w =>
    gate (some (t_35, true)) (fun K => K t_3 w) w fun t_38 w =>
    gate (some (t_35, true)) (fun K => pvv prog (binOp .add 3 t_37 t_38) w K) w fun t_39 w =>
    gate (some (t_35, true)) (fun K => pvv prog (Instr.indexAt 22 t_36 t_39) w K) w fun t_40 w =>
    gate (some (t_35, true)) (fun K => K data_p0 w) w fun t_41 w =>
    gate (some (t_35, true)) (fun K => K first_p3 w) w fun t_42 w =>
    gate (some (t_35, true)) (fun K => K t_3 w) w fun t_43 w =>
    gate (some (t_35, true)) (fun K => pvv prog (binOp .add 3 t_42 t_43) w K) w fun t_44 w =>
    gate (some (t_35, true)) (fun K => pvv prog (binOp .add 3 t_44 (.int .i64 1)) w K) w fun t_45 w =>
    gate (some (t_35, true)) (fun K => pvv prog (Instr.indexAt 22 t_41 t_45) w K) w fun t_46 w =>
    bindS (vN (Instr.loadAt 3 t_40)) fun m_48 => gate (some (t_35, true)) (fun K => ldv prog (Instr.loadAt 3 t_40) w K) w fun t_47 w =>
    bindS (vN (Instr.loadAt 3 t_46)) fun m_50 => gate (some (t_35, true)) (fun K => ldv prog (Instr.loadAt 3 t_46) w K) w fun t_49 w =>
    gate (some (t_35, true)) (fun K => Calls prog 114 #[t_47, t_49] w (Ret fun s_54 w => K s_54 w)) w fun t_51 w =>
    pv prog (oPick t_35 t_51 (.bool false)) w fun t_52 w =>
    cd t_52 (
      pvv prog (binOp .add 3 t_3 (.int .i64 1)) w fun t_53 w =>
      k_33 [t_53] w) <|
    k_33 [t_3] w) [lo_p1] w
theorem B119_eq (data_p0 lo_p1 hi_p2 first_p3 : Value) (w : World) (K : Value → World → Prop) : denFn prog Tryz.f119 T119 [data_p0, lo_p1, hi_p2, first_p3] w K = B119 data_p0 lo_p1 hi_p2 first_p3 w K := by kernel_rfl
theorem c119 {data_p0 lo_p1 hi_p2 first_p3 : Value} {w : World} {K : Value → World → Prop} (h : B119 data_p0 lo_p1 hi_p2 first_p3 w K) : Calls prog 119 #[data_p0, lo_p1, hi_p2, first_p3] w (Ret K) :=
  denFn_calls Tryz.func119 T119_ok (Eq.mpr (B119_eq data_p0 lo_p1 hi_p2 first_p3 w K) h)

-- 25 (*holdfast/pager.Pager).Pin
def T25 : Ann := (.seq .none (.seq (.seq .none (.seq (.seq .none .none) .none)) (.seq (.seq .none (.block (.loop 1073217744 [19] (.seq .none (.seq (.seq .none .none) (.seq (.block (.seq .none (.seq .none (.seq .none (.seq (.seq .none .none) .none))))) .none)))))) (.seq .none (.seq (.seq .none (.block (.loop 18014261070535696 [37] (.seq .none (.seq (.seq .none .none) (.seq (.block (.seq .none (.seq (.seq .none (.seq .none (.seq (.seq .none .none) .none))) .none))) .none)))))) (.seq (.seq (.draw [.op 0 .pure, .op 2 .pure, .op 3 .pure, .op 4 .pure, .op 1 .load, .op 5 .load, .op 6 .pure]) (.seq (.seq .none .none) .none)) (.seq (.seq .none (.block (.loop 75548640353877468659712 [63] (.seq .none (.seq (.seq .none .none) (.seq (.block (.seq .none (.seq .none .none))) .none)))))) (.seq .none .none))))))))
theorem T25_ok : chkFn prog Tryz.f25 T25 = true := by kernel_rfl
def B25 (p_p0 pages_p1 : Value) (w : World) (K : Value → World → Prop) : Prop :=
  pvv prog (oEq .eql 25 (.tmp 15) (.const (.pointer none)) p_p0 (.pointer none)) w fun t_0 w =>
  cd t_0 (
    K (.int .i64 1) w) <|
  pv prog (oBi .len #[22] 3 #[false] #[pages_p1]) w fun t_1 w =>
  lp (fun σ w again_3 => pop σ fun t_2 σ => fin σ <|
    pvv prog (binOp .lss 3 t_2 t_1) w fun t_4 w =>
    cd t_4 (
      pvv prog (Instr.indexAt 22 pages_p1 t_2) w fun t_5 w =>
      ldv prog (Instr.loadAt 3 t_5) w fun t_6 w =>
      Calls prog 37 #[p_p0, t_6] w (Ret fun t_7 w =>
      pvv prog (oEq .neq 32 (.tmp 26) (.const (.int .i64 0)) t_7 (.int .i64 0)) w fun t_8 w =>
      cd t_8 (
        K t_7 w) <|
      pvv prog (binOp .add 3 t_2 (.int .i64 1)) w fun t_9 w =>
      again_3 [t_9] w)) <|
    pv prog (oNil p_p0) w fun t_10 w =>
    pvv prog (Instr.fieldAt 80 t_10 5) w fun t_11 w =>
    ldv prog (Instr.loadAt 73 t_11) w fun t_12 w =>
    Calls prog 50 #[t_12] w (Ret fun t_13 w =>
    pv prog (oBi .len #[22] 3 #[false] #[pages_p1]) w fun t_14 w =>
    lp (fun σ w again_16 => pop σ fun t_15 σ => fin σ <|
      pvv prog (binOp .lss 3 t_15 t_14) w fun t_17 w =>
      cd t_17 (
        pvv prog (Instr.indexAt 22 pages_p1 t_15) w fun t_18 w =>
        ldv prog (Instr.loadAt 3 t_18) w fun t_19 w =>
        pv prog (oNil p_p0) w fun t_20 w =>
        pvv prog (Instr.fieldAt 80 t_20 2) w fun t_21 w =>
        ldv prog (Instr.loadAt 72 t_21) w fun t_22 w =>
        ldv prog (Instr.lookup 72 t_22 t_19 true) w fun t_23 w =>
        pvv prog (Instr.extract t_23 0) w fun t_24 w =>
        pvv prog (Instr.extract t_23 1) w fun t_25 w =>
        cd t_25 (
          K (.int .i64 3) w) <|
        efu prog (Instr.mapUpdate 73 t_13 t_19 (.bool true)) w fun u_26 w =>
        pvv prog (binOp .add 3 t_15 (.int .i64 1)) w fun t_27 w =>
        again_16 [t_27] w) <|
      dr w fun w =>
      pv prog (oNil p_p0) w fun t_28 w =>
      pvv prog (Instr.fieldAt 80 t_28 1) w fun t_29 w =>
      bindS (oBi .len #[73] 3 #[false] #[t_13]) fun m_31 => ld prog (oBi .len #[73] 3 #[false] #[t_13]) w fun t_30 w =>
      bindS (vN (Instr.loadAt 3 t_29)) fun m_33 => ldv prog (Instr.loadAt 3 t_29) w fun t_32 w =>
      pvv prog (binOp .gtr 3 t_30 t_32) w fun t_34 w =>
      cd t_34 (
        K (.int .i64 7) w) <|
      pv prog (oBi .len #[22] 3 #[false] #[pages_p1]) w fun t_35 w =>
      lp (fun σ w again_37 => pop σ fun t_36 σ => fin σ <|
        pvv prog (binOp .lss 3 t_36 t_35) w fun t_38 w =>
        cd t_38 (
          pvv prog (Instr.indexAt 22 pages_p1 t_36) w fun t_39 w =>
          ldv prog (Instr.loadAt 3 t_39) w fun t_40 w =>
          pv prog (oNil p_p0) w fun t_41 w =>
          pvv prog (Instr.fieldAt 80 t_41 5) w fun t_42 w =>
          ldv prog (Instr.loadAt 73 t_42) w fun t_43 w =>
          efu prog (Instr.mapUpdate 73 t_43 t_40 (.bool true)) w fun u_44 w =>
          Calls prog 40 #[p_p0, t_40] w (Ret fun t_45 w =>
          pvv prog (binOp .add 3 t_36 (.int .i64 1)) w fun t_46 w =>
          again_37 [t_46] w)) <|
        K (.int .i64 0) w) [(.int .i64 0)] w) [(.int .i64 0)] w)) [(.int .i64 0)] w
theorem B25_eq (p_p0 pages_p1 : Value) (w : World) (K : Value → World → Prop) : denFn prog Tryz.f25 T25 [p_p0, pages_p1] w K = B25 p_p0 pages_p1 w K := by kernel_rfl
theorem c25 {p_p0 pages_p1 : Value} {w : World} {K : Value → World → Prop} (h : B25 p_p0 pages_p1 w K) : Calls prog 25 #[p_p0, pages_p1] w (Ret K) :=
  denFn_calls Tryz.func25 T25_ok (Eq.mpr (B25_eq p_p0 pages_p1 w K) h)

-- 108 slices.insertionSortOrdered[int]
def T108 : Ann := (.seq .none (.block (.loop 562949953420480 [6] (.seq (.seq .none (.seq .none .none)) (.seq (.block (.seq .none (.block (.loop 562949953355904 [7] (.seq (.seq (.draw [.op 0 .pure, .op 1 .pure, .op 2 .pure, .op 3 .pure, .op 4 .pure, .op 5 .pure, .op 6 .pure, .op 8 .pure, .op 9 .pure, .op 10 .pure, .op 11 .pure, .op 7 .load, .op 12 .load, .op 13 .eff, .op 14 .pure]) (.seq .none .none)) (.seq (.block (.draw [.op 0 .pure, .op 1 .pure, .op 2 .pure, .op 3 .pure, .op 4 .pure, .op 5 .pure, .op 6 .pure, .op 7 .pure, .op 8 .pure, .op 10 .pure, .op 11 .pure, .op 12 .pure, .op 9 .load, .op 13 .load, .op 14 .pure, .op 15 .eff, .op 16 .pure, .op 17 .eff])) .none)))))) .none)))))
theorem T108_ok : chkFn prog Tryz.f108 T108 = true := by kernel_rfl
def B108 (data_p0 a_p1 b_p2 : Value) (w : World) (K : Value → World → Prop) : Prop :=
  pvv prog (binOp .add 3 a_p1 (.int .i64 1)) w fun t_0 w =>
  lp (fun σ w again_2 => pop σ fun i_1 σ => fin σ <|
    pvv prog (binOp .lss 3 i_1 b_p2) w fun t_3 w =>
    cd t_3 (
      lp (fun σ w again_5 => pop σ fun j_4 σ => fin σ <|
        dr w fun w =>
        pvv prog (binOp .gtr 3 j_4 a_p1) w fun t_6 w =>
        gate (some (t_6, true)) (fun K => K data_p0 w) w fun t_7 w =>
        gate (some (t_6, true)) (fun K => K j_4 w) w fun t_8 w =>
        gate (some (t_6, true)) (fun K => pvv prog (Instr.indexAt 22 t_7 t_8) w K) w fun t_9 w =>
        gate (some (t_6, true)) (fun K => K data_p0 w) w fun t_10 w =>
        gate (some (t_6, true)) (fun K => K j_4 w) w fun t_11 w =>
        gate (some (t_6, true)) (fun K => pvv prog (binOp .sub 3 t_11 (.int .i64 1)) w K) w fun t_12 w =>
        gate (some (t_6, true)) (fun K => pvv prog (Instr.indexAt 22 t_10 t_12) w K) w fun t_13 w =>
        bindS (vN (Instr.loadAt 3 t_9)) fun m_15 => gate (some (t_6, true)) (fun K => ldv prog (Instr.loadAt 3 t_9) w K) w fun t_14 w =>
        bindS (vN (Instr.loadAt 3 t_13)) fun m_17 => gate (some (t_6, true)) (fun K => ldv prog (Instr.loadAt 3 t_13) w K) w fun t_16 w =>
        gate (some (t_6, true)) (fun K => Calls prog 114 #[t_14, t_16] w (Ret fun s_36 w => K s_36 w)) w fun t_18 w =>
        pv prog (oPick t_6 t_18 (.bool false)) w fun t_19 w =>
        cd t_19 (
          dr w fun w =>
          pvv prog (binOp .sub 3 j_4 (.int .i64 1)) w fun t_20 w =>
          pvv prog (binOp .sub 3 j_4 (.int .i64 1)) w fun t_21 w =>
          pvv prog (Instr.indexAt 22 data_p0 t_21) w fun t_22 w =>
          pvv prog (Instr.indexAt 22 data_p0 j_4) w fun t_23 w =>
          bindS (vN (Instr.loadAt 3 t_22)) fun m_25 => ldv prog (Instr.loadAt 3 t_22) w fun t_24 w =>
          bindS (vN (Instr.loadAt 3 t_23)) fun m_27 => ldv prog (Instr.loadAt 3 t_23) w fun t_26 w =>
          pvv prog (Instr.indexAt 22 data_p0 j_4) w fun t_28 w =>
          efu prog (Instr.storeAt 3 t_28 t_24) w fun u_29 w =>
          pvv prog (Instr.indexAt 22 data_p0 t_20) w fun t_30 w =>
          efu prog (Instr.storeAt 3 t_30 t_26) w fun u_31 w =>
          pvv prog (binOp .sub 3 j_4 (.int .i64 1)) w fun t_32 w =>
          again_5 [t_32] w) <|
        pvv prog (binOp .add 3 i_1 (.int .i64 1)) w fun t_35 w =>
        again_2 [t_35] w) [i_1] w) <|
    K (.tuple #[]) w) [t_0] w
theorem B108_eq (data_p0 a_p1 b_p2 : Value) (w : World) (K : Value → World → Prop) : denFn prog Tryz.f108 T108 [data_p0, a_p1, b_p2] w K = B108 data_p0 a_p1 b_p2 w K := by kernel_rfl
theorem c108 {data_p0 a_p1 b_p2 : Value} {w : World} {K : Value → World → Prop} (h : B108 data_p0 a_p1 b_p2 w K) : Calls prog 108 #[data_p0, a_p1, b_p2] w (Ret K) :=
  denFn_calls Tryz.func108 T108_ok (Eq.mpr (B108_eq data_p0 a_p1 b_p2 w K) h)

-- 95 (*holdfast/holdfastref01.Disk).Read
def T95 : Ann := (.seq .none (.seq (.block (.seq .none (.seq (.seq .none .none) (.seq .none (.seq (.seq .none .none) .none))))) (.seq (.seq .none (.block (.loop 2251799545249904 [6] (.seq (.seq .none (.seq .none .none)) (.seq (.block (.seq .none (.seq (.seq .none .none) .none))) .none))))) (.seq .none .none))))
theorem T95_ok : chkFn prog Tryz.f95 T95 = true := by kernel_rfl
def B95 (d_p0 n_p1 : Value) (w : World) (K : Value → World → Prop) : Prop :=
  pvv prog (oEq .eql 62 (.tmp 8) (.const (.pointer none)) d_p0 (.pointer none)) w fun t_0 w =>
  cd t_0 (
    K (.tuple #[(.slice none 0 0), (.int .i64 1)]) w) <|
  pvv prog (binOp .lss 3 n_p1 (.int .i64 0)) w fun t_1 w =>
  gate (some (t_1, false)) (fun K => K n_p1 w) w fun t_2 w =>
  gate (some (t_1, false)) (fun K => K d_p0 w) w fun t_3 w =>
  gate (some (t_1, false)) (fun K => pv prog (oNil t_3) w K) w fun t_4 w =>
  gate (some (t_1, false)) (fun K => pvv prog (Instr.fieldAt 115 t_4 0) w K) w fun t_5 w =>
  gate (some (t_1, false)) (fun K => ldv prog (Instr.loadAt 40 t_5) w K) w fun t_6 w =>
  gate (some (t_1, false)) (fun K => pv prog (oBi .len #[40] 3 #[false] #[t_6]) w K) w fun t_7 w =>
  gate (some (t_1, false)) (fun K => pvv prog (binOp .geq 3 t_2 t_7) w K) w fun t_8 w =>
  pv prog (oPick t_1 (.bool true) t_8) w fun t_9 w =>
  cd t_9 (
    K (.tuple #[(.slice none 0 0), (.int .i64 2)]) w) <|
  pv prog (oNil d_p0) w fun t_10 w =>
  pvv prog (Instr.fieldAt 115 t_10 1) w fun t_11 w =>
  ldv prog (Instr.loadAt 113 t_11) w fun t_12 w =>
  pv prog (oBi .len #[113] 3 #[false] #[t_12]) w fun t_13 w =>
  pvv prog (binOp .sub 3 t_13 (.int .i64 1)) w fun t_14 w =>
  lp (fun σ w again_16 => pop σ fun i_15 σ => fin σ <|
    pvv prog (binOp .geq 3 i_15 (.int .i64 0)) w fun t_17 w =>
    cd t_17 (
      pv prog (oNil d_p0) w fun t_18 w =>
      pvv prog (Instr.fieldAt 115 t_18 1) w fun t_19 w =>
      ldv prog (Instr.loadAt 113 t_19) w fun t_20 w =>
      pvv prog (Instr.indexAt 113 t_20 i_15) w fun t_21 w =>
      pvv prog (Instr.fieldAt 155 t_21 0) w fun t_22 w =>
      ldv prog (Instr.loadAt 3 t_22) w fun t_23 w =>
      pvv prog (oEq .eql 3 (.tmp 39) (.tmp 40) t_23 n_p1) w fun t_24 w =>
      cd t_24 (
        pv prog (oNil d_p0) w fun t_25 w =>
        pvv prog (Instr.fieldAt 115 t_25 1) w fun t_26 w =>
        ldv prog (Instr.loadAt 113 t_26) w fun t_27 w =>
        pvv prog (Instr.indexAt 113 t_27 i_15) w fun t_28 w =>
        pvv prog (Instr.fieldAt 155 t_28 1) w fun t_29 w =>
        ldv prog (Instr.loadAt 30 t_29) w fun t_30 w =>
        Calls prog 106 #[t_30] w (Ret fun t_31 w =>
        K (.tuple #[t_31, (.int .i64 0)]) w)) <|
      pvv prog (binOp .sub 3 i_15 (.int .i64 1)) w fun t_32 w =>
      again_16 [t_32] w) <|
    pv prog (oNil d_p0) w fun t_33 w =>
    pvv prog (Instr.fieldAt 115 t_33 0) w fun t_34 w =>
    ldv prog (Instr.loadAt 40 t_34) w fun t_35 w =>
    pvv prog (Instr.indexAt 40 t_35 n_p1) w fun t_36 w =>
    ldv prog (Instr.loadAt 30 t_36) w fun t_37 w =>
    Calls prog 106 #[t_37] w (Ret fun t_38 w =>
    K (.tuple #[t_38, (.int .i64 0)]) w)) [t_14] w
theorem B95_eq (d_p0 n_p1 : Value) (w : World) (K : Value → World → Prop) : denFn prog Tryz.f95 T95 [d_p0, n_p1] w K = B95 d_p0 n_p1 w K := by kernel_rfl
theorem c95 {d_p0 n_p1 : Value} {w : World} {K : Value → World → Prop} (h : B95 d_p0 n_p1 w K) : Calls prog 95 #[d_p0, n_p1] w (Ret K) :=
  denFn_calls Tryz.func95 T95_ok (Eq.mpr (B95_eq d_p0 n_p1 w K) h)

-- 9 holdfast/holdfastlaw04.open
def T9 : Ann := (.seq .none (.seq .none (.seq .none (.seq .none (.seq .none (.seq .none (.seq .none (.seq .none .none))))))))
theorem T9_ok : chkFn prog Tryz.f9 T9 = true := by kernel_rfl
def B9 (size_p0 most_p1 : Value) (w : World) (K : Value → World → Prop) : Prop :=
  pvv prog (binOp .add 3 size_p0 (.int .i64 12)) w fun t_0 w =>
  Calls prog 33 #[t_0] w (Ret fun t_1 w =>
  pvv prog (Instr.extract t_1 0) w fun t_2 w =>
  pvv prog (Instr.extract t_1 1) w fun t_3 w =>
  pvv prog (binOp .add 3 size_p0 (.int .i64 12)) w fun t_4 w =>
  Calls prog 34 #[t_4] w (Ret fun t_5 w =>
  pvv prog (Instr.extract t_5 0) w fun t_6 w =>
  pvv prog (Instr.extract t_5 1) w fun t_7 w =>
  Calls prog 28 #[t_2, size_p0] w (Ret fun t_8 w =>
  pvv prog (Instr.extract t_8 0) w fun t_9 w =>
  pvv prog (Instr.extract t_8 1) w fun t_10 w =>
  Calls prog 35 #[t_6, size_p0] w (Ret fun t_11 w =>
  pvv prog (Instr.extract t_11 0) w fun t_12 w =>
  pvv prog (Instr.extract t_11 1) w fun t_13 w =>
  Calls prog 29 #[t_9, most_p1] w (Ret fun t_14 w =>
  pvv prog (Instr.extract t_14 0) w fun t_15 w =>
  pvv prog (Instr.extract t_14 1) w fun t_16 w =>
  Calls prog 36 #[t_12, most_p1] w (Ret fun t_17 w =>
  pvv prog (Instr.extract t_17 0) w fun t_18 w =>
  pvv prog (Instr.extract t_17 1) w fun t_19 w =>
  pvv prog (oEq .eql 32 (.tmp 57) (.tmp 58) t_10 t_13) w fun t_20 w =>
  gate (some (t_20, true)) (fun K => K t_16 w) w fun t_21 w =>
  gate (some (t_20, true)) (fun K => K t_19 w) w fun t_22 w =>
  gate (some (t_20, true)) (fun K => pvv prog (oEq .eql 32 (.tmp 61) (.tmp 62) t_21 t_22) w K) w fun t_23 w =>
  pv prog (oPick t_20 t_23 (.bool false)) w fun t_24 w =>
  gate (some (t_24, true)) (fun K => K t_15 w) w fun t_25 w =>
  gate (some (t_24, true)) (fun K => pvv prog (oEq .eql 25 (.tmp 66) (.const (.pointer none)) t_25 (.pointer none)) w K) w fun t_26 w =>
  gate (some (t_24, true)) (fun K => K t_18 w) w fun t_27 w =>
  gate (some (t_24, true)) (fun K => pvv prog (oEq .eql 26 (.tmp 68) (.const (.pointer none)) t_27 (.pointer none)) w K) w fun t_28 w =>
  gate (some (t_24, true)) (fun K => pvv prog (oEq .eql 4 (.tmp 67) (.tmp 69) t_26 t_28) w K) w fun t_29 w =>
  pv prog (oPick t_24 t_29 (.bool false)) w fun t_30 w =>
  K (.tuple #[t_15, t_18, t_30]) w))))))
theorem B9_eq (size_p0 most_p1 : Value) (w : World) (K : Value → World → Prop) : denFn prog Tryz.f9 T9 [size_p0, most_p1] w K = B9 size_p0 most_p1 w K := by kernel_rfl
theorem c9 {size_p0 most_p1 : Value} {w : World} {K : Value → World → Prop} (h : B9 size_p0 most_p1 w K) : Calls prog 9 #[size_p0, most_p1] w (Ret K) :=
  denFn_calls Tryz.func9 T9_ok (Eq.mpr (B9_eq size_p0 most_p1 w K) h)

-- 34 holdfast/holdfastref01.New
def T34 : Ann := (.seq .none (.seq (.seq .none (.seq (.seq .none .none) .none)) (.seq .none (.seq (.seq .none (.block (.loop 536854560 [5] (.seq (.seq .none (.seq .none .none)) (.seq (.block (.draw [.op 0 .pure, .op 1 .pure, .op 2 .pure, .op 3 .pure, .op 4 .load, .op 5 .eff, .op 6 .eff, .op 7 .eff, .op 8 .pure, .op 9 .pure, .op 10 .eff])) .none))))) (.seq .none .none)))))
theorem T34_ok : chkFn prog Tryz.f34 T34 = true := by kernel_rfl
def B34 (blocks_p0 : Value) (w : World) (K : Value → World → Prop) : Prop :=
  pvv prog (binOp .lss 3 blocks_p0 (.int .i64 1)) w fun t_0 w =>
  gate (some (t_0, false)) (fun K => K blocks_p0 w) w fun t_1 w =>
  gate (some (t_0, false)) (fun K => pvv prog (binOp .gtr 3 t_1 (.int .i64 1024)) w K) w fun t_2 w =>
  pv prog (oPick t_0 (.bool true) t_2) w fun t_3 w =>
  cd t_3 (
    K (.tuple #[(.pointer none), (.int .i64 2)]) w) <|
  pvv prog (Instr.build 115 #[]) w fun t_4 w =>
  efv prog (Instr.box 115 t_4) w fun t_5 w =>
  lp (fun σ w again_7 => pop σ fun i_6 σ => fin σ <|
    pvv prog (binOp .lss 3 i_6 blocks_p0) w fun t_8 w =>
    cd t_8 (
      dr w fun w =>
      pv prog (oNil t_5) w fun t_9 w =>
      pvv prog (Instr.fieldAt 115 t_9 0) w fun t_10 w =>
      bindS (vN (Instr.loadAt 40 t_10)) fun m_12 => ldv prog (Instr.loadAt 40 t_10) w fun t_11 w =>
      efv prog (Instr.makeSlice 30 (.int .i64 256) (.int .i64 256)) w fun t_13 w => stay prog none m_12 t_11 w <| 
      efv prog (Instr.buildSlice 40 1 #[(0, t_13)]) w fun t_14 w => stay prog none m_12 t_11 w <| 
      ef prog (oBi .append #[40, 40] 40 #[false, false] #[t_11, t_14]) w fun t_15 w =>
      pv prog (oNil t_5) w fun t_16 w =>
      pvv prog (Instr.fieldAt 115 t_16 0) w fun t_17 w =>
      efu prog (Instr.storeAt 40 t_17 t_15) w fun u_18 w =>
      pvv prog (binOp .add 3 i_6 (.int .i64 1)) w fun t_19 w =>
      again_7 [t_19] w) <|
    K (.tuple #[t_5, (.int .i64 0)]) w) [(.int .i64 0)] w
theorem B34_eq (blocks_p0 : Value) (w : World) (K : Value → World → Prop) : denFn prog Tryz.f34 T34 [blocks_p0] w K = B34 blocks_p0 w K := by kernel_rfl
theorem c34 {blocks_p0 : Value} {w : World} {K : Value → World → Prop} (h : B34 blocks_p0 w K) : Calls prog 34 #[blocks_p0] w (Ret K) :=
  denFn_calls Tryz.func34 T34_ok (Eq.mpr (B34_eq blocks_p0 w K) h)

-- 78 (*holdfast/wal.Log).head
def T78 : Ann := (.seq .none (.seq .none (.seq (.draw [.op 0 .pure, .op 1 .pure, .op 2 .pure, .op 3 .pure, .op 4 .pure, .op 5 .load, .op 6 .eff]) (.seq (.draw [.op 0 .pure, .op 1 .pure, .op 2 .pure, .op 3 .pure, .op 4 .pure, .op 5 .load, .op 6 .eff]) .none))))
theorem T78_ok : chkFn prog Tryz.f78 T78 = true := by kernel_rfl
def B78 (l_p0 : Value) (w : World) (K : Value → World → Prop) : Prop :=
  efv prog (Instr.makeSlice 30 (.int .i64 256) (.int .i64 256)) w fun t_0 w =>
  pvv prog (Instr.indexAt 30 t_0 (.int .i64 0)) w fun t_1 w =>
  efu prog (Instr.storeAt 5 t_1 (.int .u8 72)) w fun u_2 w =>
  pvv prog (Instr.indexAt 30 t_0 (.int .i64 1)) w fun t_3 w =>
  efu prog (Instr.storeAt 5 t_3 (.int .u8 70)) w fun u_4 w =>
  dr w fun w =>
  pvv prog (Instr.sliceAt 30 t_0 (some (.int .i64 2)) (some (.int .i64 10)) none) w fun t_5 w =>
  pv prog (oNil l_p0) w fun t_6 w =>
  pvv prog (Instr.fieldAt 97 t_6 2) w fun t_7 w =>
  bindS (vN (Instr.loadAt 3 t_7)) fun m_9 => ldv prog (Instr.loadAt 3 t_7) w fun t_8 w =>
  Calls prog 76 #[t_5, t_8] w (Ret fun t_10 w =>
  dr w fun w =>
  pvv prog (Instr.sliceAt 30 t_0 (some (.int .i64 10)) (some (.int .i64 12)) none) w fun t_11 w =>
  pv prog (oNil l_p0) w fun t_12 w =>
  pvv prog (Instr.fieldAt 97 t_12 3) w fun t_13 w =>
  bindS (vN (Instr.loadAt 3 t_13)) fun m_15 => ldv prog (Instr.loadAt 3 t_13) w fun t_14 w =>
  Calls prog 76 #[t_11, t_14] w (Ret fun t_16 w =>
  pv prog (oNil l_p0) w fun t_17 w =>
  pvv prog (Instr.fieldAt 97 t_17 0) w fun t_18 w =>
  pvv prog (Instr.fieldAt 94 t_18 0) w fun t_19 w =>
  ldv prog (Instr.loadAt 48 t_19) w fun t_20 w =>
  Calls prog 77 #[t_20, (.int .i64 0), t_0] w (Ret fun t_21 w =>
  K (.tuple #[]) w)))
theorem B78_eq (l_p0 : Value) (w : World) (K : Value → World → Prop) : denFn prog Tryz.f78 T78 [l_p0] w K = B78 l_p0 w K := by kernel_rfl
theorem c78 {l_p0 : Value} {w : World} {K : Value → World → Prop} (h : B78 l_p0 w K) : Calls prog 78 #[l_p0] w (Ret K) :=
  denFn_calls Tryz.func78 T78_ok (Eq.mpr (B78_eq l_p0 w K) h)

-- 112 slices.reverseRangeOrdered[int]
def T112 : Ann := (.seq .none (.seq .none (.block (.loop 4294965440 [6, 7] (.seq (.seq .none (.seq .none .none)) (.block (.seq (.draw [.op 0 .pure, .op 1 .pure, .op 2 .pure, .op 3 .pure, .op 4 .pure, .op 5 .pure, .op 6 .pure, .op 8 .pure, .op 9 .pure, .op 10 .pure, .op 7 .load, .op 11 .load, .op 12 .pure, .op 13 .eff, .op 14 .pure, .op 15 .eff]) (.seq .none .none))))))))
theorem T112_ok : chkFn prog Tryz.f112 T112 = true := by kernel_rfl
def B112 (data_p0 a_p1 b_p2 : Value) (w : World) (K : Value → World → Prop) : Prop :=
  pvv prog (binOp .sub 3 b_p2 (.int .i64 1)) w fun t_0 w =>
  lp (fun σ w again_3 => pop σ fun i_1 σ => pop σ fun j_2 σ => fin σ <|
    pvv prog (binOp .lss 3 i_1 j_2) w fun t_4 w =>
    cd t_4 (
      dr w fun w =>
      pvv prog (Instr.indexAt 22 data_p0 j_2) w fun t_5 w =>
      pvv prog (Instr.indexAt 22 data_p0 i_1) w fun t_6 w =>
      bindS (vN (Instr.loadAt 3 t_5)) fun m_8 => ldv prog (Instr.loadAt 3 t_5) w fun t_7 w =>
      bindS (vN (Instr.loadAt 3 t_6)) fun m_10 => ldv prog (Instr.loadAt 3 t_6) w fun t_9 w =>
      pvv prog (Instr.indexAt 22 data_p0 i_1) w fun t_11 w =>
      efu prog (Instr.storeAt 3 t_11 t_7) w fun u_12 w =>
      pvv prog (Instr.indexAt 22 data_p0 j_2) w fun t_13 w =>
      efu prog (Instr.storeAt 3 t_13 t_9) w fun u_14 w =>
      pvv prog (binOp .add 3 i_1 (.int .i64 1)) w fun t_15 w =>
      pvv prog (binOp .sub 3 j_2 (.int .i64 1)) w fun t_16 w =>
      again_3 [t_15, t_16] w) <|
    K (.tuple #[]) w) [a_p1, t_0] w
theorem B112_eq (data_p0 a_p1 b_p2 : Value) (w : World) (K : Value → World → Prop) : denFn prog Tryz.f112 T112 [data_p0, a_p1, b_p2] w K = B112 data_p0 a_p1 b_p2 w K := by kernel_rfl
theorem c112 {data_p0 a_p1 b_p2 : Value} {w : World} {K : Value → World → Prop} (h : B112 data_p0 a_p1 b_p2 w K) : Calls prog 112 #[data_p0, a_p1, b_p2] w (Ret K) :=
  denFn_calls Tryz.func112 T112_ok (Eq.mpr (B112_eq data_p0 a_p1 b_p2 w K) h)

-- 15 holdfast/holdfastref01.SameBytes
def T15 : Ann := (.seq .none (.seq (.seq .none (.seq (.seq .none .none) .none)) (.seq (.seq .none (.block (.loop 67106864 [5] (.seq (.seq .none (.seq .none .none)) (.seq (.block (.seq (.draw [.op 0 .pure, .op 1 .pure, .op 2 .pure, .op 4 .pure, .op 5 .pure, .op 6 .pure, .op 3 .load, .op 7 .load, .op 8 .pure]) (.seq (.seq .none .none) .none))) .none))))) (.seq .none .none))))
theorem T15_ok : chkFn prog Tryz.f15 T15 = true := by kernel_rfl
def B15 (a_p0 b_p1 : Value) (w : World) (K : Value → World → Prop) : Prop :=
  pv prog (oBi .len #[30] 3 #[false] #[a_p0]) w fun t_0 w =>
  pv prog (oBi .len #[30] 3 #[false] #[b_p1]) w fun t_1 w =>
  pvv prog (oEq .neq 3 (.tmp 7) (.tmp 9) t_0 t_1) w fun t_2 w =>
  cd t_2 (
    K (.bool false) w) <|
  lp (fun σ w again_4 => pop σ fun i_3 σ => fin σ <|
    pv prog (oBi .len #[30] 3 #[false] #[a_p0]) w fun t_5 w =>
    pvv prog (binOp .lss 3 i_3 t_5) w fun t_6 w =>
    cd t_6 (
      dr w fun w =>
      pvv prog (Instr.indexAt 30 a_p0 i_3) w fun t_7 w =>
      pvv prog (Instr.indexAt 30 b_p1 i_3) w fun t_8 w =>
      bindS (vN (Instr.loadAt 5 t_7)) fun m_10 => ldv prog (Instr.loadAt 5 t_7) w fun t_9 w =>
      bindS (vN (Instr.loadAt 5 t_8)) fun m_12 => ldv prog (Instr.loadAt 5 t_8) w fun t_11 w =>
      pvv prog (oEq .neq 5 (.tmp 20) (.tmp 24) t_9 t_11) w fun t_13 w =>
      cd t_13 (
        K (.bool false) w) <|
      pvv prog (binOp .add 3 i_3 (.int .i64 1)) w fun t_14 w =>
      again_4 [t_14] w) <|
    K (.bool true) w) [(.int .i64 0)] w
theorem B15_eq (a_p0 b_p1 : Value) (w : World) (K : Value → World → Prop) : denFn prog Tryz.f15 T15 [a_p0, b_p1] w K = B15 a_p0 b_p1 w K := by kernel_rfl
theorem c15 {a_p0 b_p1 : Value} {w : World} {K : Value → World → Prop} (h : B15 a_p0 b_p1 w K) : Calls prog 15 #[a_p0, b_p1] w (Ret K) :=
  denFn_calls Tryz.func15 T15_ok (Eq.mpr (B15_eq a_p0 b_p1 w K) h)

-- 29 holdfast/pager.New
def T29 : Ann := (.seq .none (.seq (.block (.seq .none (.seq (.seq .none .none) (.seq .none (.seq (.seq .none .none) .none))))) (.seq .none .none)))
theorem T29_ok : chkFn prog Tryz.f29 T29 = true := by kernel_rfl
def B29 (l_p0 most_p1 : Value) (w : World) (K : Value → World → Prop) : Prop :=
  pvv prog (oEq .eql 42 (.tmp 7) (.const (.pointer none)) l_p0 (.pointer none)) w fun t_0 w =>
  cd t_0 (
    K (.tuple #[(.pointer none), (.int .i64 1)]) w) <|
  pvv prog (binOp .lss 3 most_p1 (.int .i64 1)) w fun t_1 w =>
  gate (some (t_1, false)) (fun K => K most_p1 w) w fun t_2 w =>
  gate (some (t_1, false)) (fun K => pvv prog (binOp .gtr 3 t_2 (.int .i64 64)) w K) w fun t_3 w =>
  pv prog (oPick t_1 (.bool true) t_3) w fun t_4 w =>
  cd t_4 (
    K (.tuple #[(.pointer none), (.int .i64 2)]) w) <|
  efv prog (Instr.makeMap 72 none) w fun t_5 w =>
  efv prog (Instr.makeMap 72 none) w fun t_6 w =>
  efv prog (Instr.makeMap 73 none) w fun t_7 w =>
  pvv prog (Instr.build 80 #[(0, l_p0), (1, most_p1), (2, t_5), (3, t_6), (5, t_7)]) w fun t_8 w =>
  efv prog (Instr.box 80 t_8) w fun t_9 w =>
  K (.tuple #[t_9, (.int .i64 0)]) w
theorem B29_eq (l_p0 most_p1 : Value) (w : World) (K : Value → World → Prop) : denFn prog Tryz.f29 T29 [l_p0, most_p1] w K = B29 l_p0 most_p1 w K := by kernel_rfl
theorem c29 {l_p0 most_p1 : Value} {w : World} {K : Value → World → Prop} (h : B29 l_p0 most_p1 w K) : Calls prog 29 #[l_p0, most_p1] w (Ret K) :=
  denFn_calls Tryz.func29 T29_ok (Eq.mpr (B29_eq l_p0 most_p1 w K) h)

-- 39 (*holdfast/pager.Pager).drop
def T39 : Ann := (.seq .none (.seq .none (.draw [.op 0 .pure, .op 1 .pure, .op 2 .pure, .op 3 .load, .op 4 .load, .op 5 .eff])))
theorem T39_ok : chkFn prog Tryz.f39 T39 = true := by kernel_rfl
def B39 (p_p0 n_p1 : Value) (w : World) (K : Value → World → Prop) : Prop :=
  efv prog (Instr.box 3 n_p1) w fun n_0 w =>
  pv prog (oNil p_p0) w fun t_1 w =>
  pvv prog (Instr.fieldAt 80 t_1 4) w fun t_2 w =>
  ldv prog (Instr.loadAt 22 t_2) w fun t_3 w =>
  pvv prog (Instr.makeFunc (.func 68) #[] #[n_0]) w fun t_4 w =>
  Calls prog 67 #[t_3, t_4] w (Ret fun t_5 w =>
  pv prog (oNil p_p0) w fun t_6 w =>
  pvv prog (Instr.fieldAt 80 t_6 4) w fun t_7 w =>
  efu prog (Instr.storeAt 22 t_7 t_5) w fun u_8 w =>
  dr w fun w =>
  pv prog (oNil p_p0) w fun t_9 w =>
  pvv prog (Instr.fieldAt 80 t_9 3) w fun t_10 w =>
  bindS (vN (Instr.loadAt 72 t_10)) fun m_12 => ldv prog (Instr.loadAt 72 t_10) w fun t_11 w =>
  bindS (vN (Instr.loadAt 3 n_0)) fun m_14 => ldv prog (Instr.loadAt 3 n_0) w fun t_13 w =>
  ef prog (oBi .delete #[72, 3] 0 #[false, false] #[t_11, t_13]) w fun u_15 w =>
  K (.tuple #[]) w)
theorem B39_eq (p_p0 n_p1 : Value) (w : World) (K : Value → World → Prop) : denFn prog Tryz.f39 T39 [p_p0, n_p1] w K = B39 p_p0 n_p1 w K := by kernel_rfl
theorem c39 {p_p0 n_p1 : Value} {w : World} {K : Value → World → Prop} (h : B39 p_p0 n_p1 w K) : Calls prog 39 #[p_p0, n_p1] w (Ret K) :=
  denFn_calls Tryz.func39 T39_ok (Eq.mpr (B39_eq p_p0 n_p1 w K) h)

-- 14 (*holdfast/pager.Pager).Read
def T14 : Ann := (.seq .none (.seq (.seq .none (.seq .none (.seq (.seq .none .none) .none))) (.seq (.seq .none (.seq .none (.seq (.seq .none .none) .none))) (.seq .none .none))))
theorem T14_ok : chkFn prog Tryz.f14 T14 = true := by kernel_rfl
def B14 (p_p0 n_p1 : Value) (w : World) (K : Value → World → Prop) : Prop :=
  Calls prog 37 #[p_p0, n_p1] w (Ret fun t_0 w =>
  pvv prog (oEq .neq 32 (.tmp 12) (.const (.int .i64 0)) t_0 (.int .i64 0)) w fun t_1 w =>
  cd t_1 (
    K (.tuple #[(.slice none 0 0), t_0]) w) <|
  pv prog (oNil p_p0) w fun t_2 w =>
  pvv prog (Instr.fieldAt 80 t_2 2) w fun t_3 w =>
  ldv prog (Instr.loadAt 72 t_3) w fun t_4 w =>
  ldv prog (Instr.lookup 72 t_4 n_p1 true) w fun t_5 w =>
  pvv prog (Instr.extract t_5 0) w fun t_6 w =>
  pvv prog (Instr.extract t_5 1) w fun t_7 w =>
  cd t_7 (
    Calls prog 38 #[t_6] w (Ret fun t_8 w =>
    K (.tuple #[t_8, (.int .i64 0)]) w)) <|
  Calls prog 40 #[p_p0, n_p1] w (Ret fun t_9 w =>
  K (.tuple #[t_9, (.int .i64 0)]) w))
theorem B14_eq (p_p0 n_p1 : Value) (w : World) (K : Value → World → Prop) : denFn prog Tryz.f14 T14 [p_p0, n_p1] w K = B14 p_p0 n_p1 w K := by kernel_rfl
theorem c14 {p_p0 n_p1 : Value} {w : World} {K : Value → World → Prop} (h : B14 p_p0 n_p1 w K) : Calls prog 14 #[p_p0, n_p1] w (Ret K) :=
  denFn_calls Tryz.func14 T14_ok (Eq.mpr (B14_eq p_p0 n_p1 w K) h)

-- 93 holdfast/holdfastref01.CopyAll
def T93 : Ann := (.seq .none (.seq .none (.seq (.seq .none (.block (.loop 524280 [3, 4] (.seq (.seq .none (.seq .none .none)) (.seq (.block .none) .none))))) (.seq .none .none))))
theorem T93_ok : chkFn prog Tryz.f93 T93 = true := by kernel_rfl
def B93 (l_p0 : Value) (w : World) (K : Value → World → Prop) : Prop :=
  lp (fun σ w again_2 => pop σ fun out_0 σ => pop σ fun i_1 σ => fin σ <|
    pv prog (oBi .len #[40] 3 #[false] #[l_p0]) w fun t_3 w =>
    pvv prog (binOp .lss 3 i_1 t_3) w fun t_4 w =>
    cd t_4 (
      pvv prog (Instr.indexAt 40 l_p0 i_1) w fun t_5 w =>
      ldv prog (Instr.loadAt 30 t_5) w fun t_6 w =>
      Calls prog 106 #[t_6] w (Ret fun t_7 w =>
      efv prog (Instr.buildSlice 40 1 #[(0, t_7)]) w fun t_8 w =>
      ef prog (oBi .append #[40, 40] 40 #[false, false] #[out_0, t_8]) w fun t_9 w =>
      pvv prog (binOp .add 3 i_1 (.int .i64 1)) w fun t_10 w =>
      again_2 [t_9, t_10] w)) <|
    K out_0 w) [(.slice none 0 0), (.int .i64 0)] w
theorem B93_eq (l_p0 : Value) (w : World) (K : Value → World → Prop) : denFn prog Tryz.f93 T93 [l_p0] w K = B93 l_p0 w K := by kernel_rfl
theorem c93 {l_p0 : Value} {w : World} {K : Value → World → Prop} (h : B93 l_p0 w K) : Calls prog 93 #[l_p0] w (Ret K) :=
  denFn_calls Tryz.func93 T93_ok (Eq.mpr (B93_eq l_p0 w K) h)

-- 98 slices.IndexFunc[[]holdfast/api.Page,holdfast/api.Page]
def T98 : Ann := (.seq .none (.seq (.seq .none (.block (.loop 524080 [8] (.seq .none (.seq (.seq .none .none) (.seq (.block (.seq .none (.seq .none (.seq (.seq .none .none) .none)))) .none)))))) (.seq .none .none)))
theorem T98_ok : chkFn prog Tryz.f98 T98 = true := by kernel_rfl
def B98 (s_p0 f_p1 : Value) (w : World) (K : Value → World → Prop) : Prop :=
  pv prog (oBi .len #[84] 3 #[false] #[s_p0]) w fun t_0 w =>
  lp (fun σ w again_2 => pop σ fun t_1 σ => fin σ <|
    pvv prog (binOp .lss 3 t_1 t_0) w fun t_3 w =>
    cd t_3 (
      pvv prog (Instr.indexAt 84 s_p0 t_1) w fun t_4 w =>
      ldv prog (Instr.loadAt 86 t_4) w fun t_5 w =>
      ef prog (oCall f_p1 #[t_5]) w fun t_6 w =>
      cd t_6 (
        K t_1 w) <|
      pvv prog (binOp .add 3 t_1 (.int .i64 1)) w fun t_7 w =>
      again_2 [t_7] w) <|
    K (.int .i64 (-1)) w) [(.int .i64 0)] w
theorem B98_eq (s_p0 f_p1 : Value) (w : World) (K : Value → World → Prop) : denFn prog Tryz.f98 T98 [s_p0, f_p1] w K = B98 s_p0 f_p1 w K := by kernel_rfl
theorem c98 {s_p0 f_p1 : Value} {w : World} {K : Value → World → Prop} (h : B98 s_p0 f_p1 w K) : Calls prog 98 #[s_p0, f_p1] w (Ret K) :=
  denFn_calls Tryz.func98 T98_ok (Eq.mpr (B98_eq s_p0 f_p1 w K) h)

-- 82 maps.Keys[map[int][]byte,int,[]byte]$1
def T82 : Ann := (.seq .none (.block (.loop 16328 [] (.seq .none (.seq (.seq .none .none) (.block (.seq .none (.seq .none (.seq .none .none)))))))))
theorem T82_ok : chkFn prog Tryz.f82 T82 = true := by kernel_rfl
def B82 (yield_p0 x_p1 : Value) (w : World) (K : Value → World → Prop) : Prop :=
  ldv prog (Instr.loadAt 72 x_p1) w fun t_0 w =>
  efv prog (Instr.range 72 t_0) w fun t_1 w =>
  lp (fun σ w again_2 => fin σ <|
    efv prog (Instr.next t_1 false 0) w fun t_3 w =>
    pvv prog (Instr.extract t_3 0) w fun t_4 w =>
    cd t_4 (
      efv prog (Instr.entry t_1) w fun t_5 w =>
      pvv prog (Instr.extract t_5 0) w fun t_6 w =>
      ef prog (oCall yield_p0 #[t_6]) w fun t_7 w =>
      pvv prog (Op.unary .not t_7) w fun t_8 w =>
      cd t_8 (
        K (.tuple #[]) w) <|
      again_2 [] w) <|
    K (.tuple #[]) w) [] w
theorem B82_eq (yield_p0 x_p1 : Value) (w : World) (K : Value → World → Prop) : denFn prog Tryz.f82 T82 [yield_p0, x_p1] w K = B82 yield_p0 x_p1 w K := by kernel_rfl
theorem c82 {yield_p0 x_p1 : Value} {w : World} {K : Value → World → Prop} (h : B82 yield_p0 x_p1 w K) : Calls prog 82 #[yield_p0, x_p1] w (Ret K) :=
  denFn_calls Tryz.func82 T82_ok (Eq.mpr (B82_eq yield_p0 x_p1 w K) h)

-- 58 holdfast/wal.two
def T58 : Ann := (.seq .none (.seq (.draw [.op 0 .pure, .op 1 .pure, .op 5 .pure, .op 6 .pure, .op 2 .load, .op 3 .pure, .op 4 .pure, .op 7 .load, .op 8 .pure, .op 9 .pure, .op 10 .pure]) .none))
theorem T58_ok : chkFn prog Tryz.f58 T58 = true := by kernel_rfl
def B58 (b_p0 : Value) (w : World) (K : Value → World → Prop) : Prop :=
  dr w fun w =>
  pvv prog (Instr.indexAt 30 b_p0 (.int .i64 0)) w fun t_0 w =>
  pvv prog (Instr.indexAt 30 b_p0 (.int .i64 1)) w fun t_1 w =>
  bindS (vN (Instr.loadAt 5 t_0)) fun m_3 => ldv prog (Instr.loadAt 5 t_0) w fun t_2 w =>
  pvv prog (convert 5 3 t_2) w fun t_4 w =>
  pvv prog (binOp .shl 3 t_4 (.int .u64 8)) w fun t_5 w =>
  bindS (vN (Instr.loadAt 5 t_1)) fun m_7 => ldv prog (Instr.loadAt 5 t_1) w fun t_6 w =>
  pvv prog (convert 5 3 t_6) w fun t_8 w =>
  pvv prog (binOp .or 3 t_5 t_8) w fun t_9 w =>
  K t_9 w
theorem B58_eq (b_p0 : Value) (w : World) (K : Value → World → Prop) : denFn prog Tryz.f58 T58 [b_p0] w K = B58 b_p0 w K := by kernel_rfl
theorem c58 {b_p0 : Value} {w : World} {K : Value → World → Prop} (h : B58 b_p0 w K) : Calls prog 58 #[b_p0] w (Ret K) :=
  denFn_calls Tryz.func58 T58_ok (Eq.mpr (B58_eq b_p0 w K) h)

-- 75 holdfast/wal.Need
def T75 : Ann := (.seq .none (.seq (.seq .none (.seq (.seq .none .none) .none)) (.seq .none .none)))
theorem T75_ok : chkFn prog Tryz.f75 T75 = true := by kernel_rfl
def B75 (pages_p0 : Value) (w : World) (K : Value → World → Prop) : Prop :=
  pvv prog (binOp .lss 3 pages_p0 (.int .i64 1)) w fun t_0 w =>
  gate (some (t_0, false)) (fun K => K pages_p0 w) w fun t_1 w =>
  gate (some (t_0, false)) (fun K => pvv prog (binOp .gtr 3 t_1 (.int .i64 100)) w K) w fun t_2 w =>
  pv prog (oPick t_0 (.bool true) t_2) w fun t_3 w =>
  cd t_3 (
    K (.int .i64 0) w) <|
  pvv prog (binOp .add 3 pages_p0 (.int .i64 1)) w fun t_4 w =>
  K t_4 w
theorem B75_eq (pages_p0 : Value) (w : World) (K : Value → World → Prop) : denFn prog Tryz.f75 T75 [pages_p0] w K = B75 pages_p0 w K := by kernel_rfl
theorem c75 {pages_p0 : Value} {w : World} {K : Value → World → Prop} (h : B75 pages_p0 w K) : Calls prog 75 #[pages_p0] w (Ret K) :=
  denFn_calls Tryz.func75 T75_ok (Eq.mpr (B75_eq pages_p0 w K) h)

-- 62 (*holdfast/holdfastref01.Disk).Image
def T62 : Ann := (.seq .none (.seq (.seq .none (.seq (.seq .none .none) .none)) (.seq .none .none)))
theorem T62_ok : chkFn prog Tryz.f62 T62 = true := by kernel_rfl
def B62 (d_p0 : Value) (w : World) (K : Value → World → Prop) : Prop :=
  pvv prog (oEq .eql 62 (.tmp 3) (.const (.pointer none)) d_p0 (.pointer none)) w fun t_0 w =>
  cd t_0 (
    K (.slice none 0 0) w) <|
  pv prog (oNil d_p0) w fun t_1 w =>
  pvv prog (Instr.fieldAt 115 t_1 1) w fun t_2 w =>
  ldv prog (Instr.loadAt 113 t_2) w fun t_3 w =>
  pv prog (oBi .len #[113] 3 #[false] #[t_3]) w fun t_4 w =>
  Calls prog 94 #[d_p0, t_4] w (Ret fun t_5 w =>
  K t_5 w)
theorem B62_eq (d_p0 : Value) (w : World) (K : Value → World → Prop) : denFn prog Tryz.f62 T62 [d_p0] w K = B62 d_p0 w K := by kernel_rfl
theorem c62 {d_p0 : Value} {w : World} {K : Value → World → Prop} (h : B62 d_p0 w K) : Calls prog 62 #[d_p0] w (Ret K) :=
  denFn_calls Tryz.func62 T62_ok (Eq.mpr (B62_eq d_p0 w K) h)

-- 60 (*holdfast/holdfastref01.Disk).Blocks
def T60 : Ann := (.seq .none (.seq (.seq .none (.seq (.seq .none .none) .none)) (.seq .none .none)))
theorem T60_ok : chkFn prog Tryz.f60 T60 = true := by kernel_rfl
def B60 (d_p0 : Value) (w : World) (K : Value → World → Prop) : Prop :=
  pvv prog (oEq .eql 62 (.tmp 3) (.const (.pointer none)) d_p0 (.pointer none)) w fun t_0 w =>
  cd t_0 (
    K (.int .i64 0) w) <|
  pv prog (oNil d_p0) w fun t_1 w =>
  pvv prog (Instr.fieldAt 115 t_1 0) w fun t_2 w =>
  ldv prog (Instr.loadAt 40 t_2) w fun t_3 w =>
  pv prog (oBi .len #[40] 3 #[false] #[t_3]) w fun t_4 w =>
  K t_4 w
theorem B60_eq (d_p0 : Value) (w : World) (K : Value → World → Prop) : denFn prog Tryz.f60 T60 [d_p0] w K = B60 d_p0 w K := by kernel_rfl
theorem c60 {d_p0 : Value} {w : World} {K : Value → World → Prop} (h : B60 d_p0 w K) : Calls prog 60 #[d_p0] w (Ret K) :=
  denFn_calls Tryz.func60 T60_ok (Eq.mpr (B60_eq d_p0 w K) h)

-- 50 maps.Clone[map[int]bool,int,bool]
def T50 : Ann := (.seq .none (.seq (.seq .none (.seq (.seq .none .none) .none)) (.seq .none .none)))
theorem T50_ok : chkFn prog Tryz.f50 T50 = true := by kernel_rfl
def B50 (m_p0 : Value) (w : World) (K : Value → World → Prop) : Prop :=
  pvv prog (oEq .eql 73 (.tmp 3) (.const (.map none)) m_p0 (.map none)) w fun t_0 w =>
  cd t_0 (
    K (.map none) w) <|
  pvv prog (Instr.makeInterface 73 m_p0) w fun t_1 w =>
  ef prog (oCall (.func (.func 86) #[] #[]) #[t_1]) w fun t_2 w =>
  efv prog (Instr.typeAssert t_2 20 73 false) w fun t_3 w =>
  K t_3 w
theorem B50_eq (m_p0 : Value) (w : World) (K : Value → World → Prop) : denFn prog Tryz.f50 T50 [m_p0] w K = B50 m_p0 w K := by kernel_rfl
theorem c50 {m_p0 : Value} {w : World} {K : Value → World → Prop} (h : B50 m_p0 w K) : Calls prog 50 #[m_p0] w (Ret K) :=
  denFn_calls Tryz.func50 T50_ok (Eq.mpr (B50_eq m_p0 w K) h)

-- 71 (*holdfast/pager.Pager).use$1
def T71 : Ann := (.seq .none (.seq .none .none))
theorem T71_ok : chkFn prog Tryz.f71 T71 = true := by kernel_rfl
def B71 (k_p0 x_p1 : Value) (w : World) (K : Value → World → Prop) : Prop :=
  ldv prog (Instr.loadAt 25 x_p1) w fun t_0 w =>
  pv prog (oNil t_0) w fun t_1 w =>
  pvv prog (Instr.fieldAt 80 t_1 5) w fun t_2 w =>
  ldv prog (Instr.loadAt 73 t_2) w fun t_3 w =>
  ldv prog (Instr.lookup 73 t_3 k_p0 false) w fun t_4 w =>
  pvv prog (Op.unary .not t_4) w fun t_5 w =>
  K t_5 w
theorem B71_eq (k_p0 x_p1 : Value) (w : World) (K : Value → World → Prop) : denFn prog Tryz.f71 T71 [k_p0, x_p1] w K = B71 k_p0 x_p1 w K := by kernel_rfl
theorem c71 {k_p0 x_p1 : Value} {w : World} {K : Value → World → Prop} (h : B71 k_p0 x_p1 w K) : Calls prog 71 #[k_p0, x_p1] w (Ret K) :=
  denFn_calls Tryz.func71 T71_ok (Eq.mpr (B71_eq k_p0 x_p1 w K) h)

-- 32 (*holdfast/pager.Pager).Misses
def T32 : Ann := (.seq .none (.seq (.seq .none (.seq (.seq .none .none) .none)) (.seq .none .none)))
theorem T32_ok : chkFn prog Tryz.f32 T32 = true := by kernel_rfl
def B32 (p_p0 : Value) (w : World) (K : Value → World → Prop) : Prop :=
  pvv prog (oEq .eql 25 (.tmp 3) (.const (.pointer none)) p_p0 (.pointer none)) w fun t_0 w =>
  cd t_0 (
    K (.int .i64 0) w) <|
  pv prog (oNil p_p0) w fun t_1 w =>
  pvv prog (Instr.fieldAt 80 t_1 7) w fun t_2 w =>
  Calls prog 51 #[t_2] w (Ret fun t_3 w =>
  K t_3 w)
theorem B32_eq (p_p0 : Value) (w : World) (K : Value → World → Prop) : denFn prog Tryz.f32 T32 [p_p0] w K = B32 p_p0 w K := by kernel_rfl
theorem c32 {p_p0 : Value} {w : World} {K : Value → World → Prop} (h : B32 p_p0 w K) : Calls prog 32 #[p_p0] w (Ret K) :=
  denFn_calls Tryz.func32 T32_ok (Eq.mpr (B32_eq p_p0 w K) h)

-- 69 (*sync/atomic.Int64).Add
def T69 : Ann := (.seq .none (.seq .none .none))
theorem T69_ok : chkFn prog Tryz.f69 T69 = true := by kernel_rfl
def B69 (x_p0 delta_p1 : Value) (w : World) (K : Value → World → Prop) : Prop :=
  pv prog (oNil x_p0) w fun t_0 w =>
  pvv prog (Instr.fieldAt 78 t_0 2) w fun t_1 w =>
  ef prog (oCall (.func (.func 97) #[] #[]) #[t_1, delta_p1]) w fun t_2 w =>
  K t_2 w
theorem B69_eq (x_p0 delta_p1 : Value) (w : World) (K : Value → World → Prop) : denFn prog Tryz.f69 T69 [x_p0, delta_p1] w K = B69 x_p0 delta_p1 w K := by kernel_rfl
theorem c69 {x_p0 delta_p1 : Value} {w : World} {K : Value → World → Prop} (h : B69 x_p0 delta_p1 w K) : Calls prog 69 #[x_p0, delta_p1] w (Ret K) :=
  denFn_calls Tryz.func69 T69_ok (Eq.mpr (B69_eq x_p0 delta_p1 w K) h)

-- 85 (*sync/atomic.Int64).Store
def T85 : Ann := .none
theorem T85_ok : chkFn prog Tryz.f85 T85 = true := by kernel_rfl
def B85 (x_p0 val_p1 : Value) (w : World) (K : Value → World → Prop) : Prop :=
  pv prog (oNil x_p0) w fun t_0 w =>
  pvv prog (Instr.fieldAt 78 t_0 2) w fun t_1 w =>
  ef prog (oCall (.func (.func 103) #[] #[]) #[t_1, val_p1]) w fun t_2 w =>
  K (.tuple #[]) w
theorem B85_eq (x_p0 val_p1 : Value) (w : World) (K : Value → World → Prop) : denFn prog Tryz.f85 T85 [x_p0, val_p1] w K = B85 x_p0 val_p1 w K := by kernel_rfl
theorem c85 {x_p0 val_p1 : Value} {w : World} {K : Value → World → Prop} (h : B85 x_p0 val_p1 w K) : Calls prog 85 #[x_p0, val_p1] w (Ret K) :=
  denFn_calls Tryz.func85 T85_ok (Eq.mpr (B85_eq x_p0 val_p1 w K) h)

-- 90 holdfast/block.Load$1
def T90 : Ann := (.seq .none (.seq .none .none))
theorem T90_ok : chkFn prog Tryz.f90 T90 = true := by kernel_rfl
def B90 (b_p0 : Value) (w : World) (K : Value → World → Prop) : Prop :=
  pv prog (oBi .len #[30] 3 #[false] #[b_p0]) w fun t_0 w =>
  pvv prog (oEq .neq 3 (.tmp 4) (.const (.int .i64 256)) t_0 (.int .i64 256)) w fun t_1 w =>
  K t_1 w
theorem B90_eq (b_p0 : Value) (w : World) (K : Value → World → Prop) : denFn prog Tryz.f90 T90 [b_p0] w K = B90 b_p0 w K := by kernel_rfl
theorem c90 {b_p0 : Value} {w : World} {K : Value → World → Prop} (h : B90 b_p0 w K) : Calls prog 90 #[b_p0] w (Ret K) :=
  denFn_calls Tryz.func90 T90_ok (Eq.mpr (B90_eq b_p0 w K) h)

-- 99 maps.Keys[map[int]int,int,int]
def T99 : Ann := (.seq .none (.seq .none .none))
theorem T99_ok : chkFn prog Tryz.f99 T99 = true := by kernel_rfl
def B99 (m_p0 : Value) (w : World) (K : Value → World → Prop) : Prop :=
  efv prog (Instr.box 95 m_p0) w fun m_0 w =>
  pvv prog (Instr.makeFunc (.func 107) #[] #[m_0]) w fun t_1 w =>
  K t_1 w
theorem B99_eq (m_p0 : Value) (w : World) (K : Value → World → Prop) : denFn prog Tryz.f99 T99 [m_p0] w K = B99 m_p0 w K := by kernel_rfl
theorem c99 {m_p0 : Value} {w : World} {K : Value → World → Prop} (h : B99 m_p0 w K) : Calls prog 99 #[m_p0] w (Ret K) :=
  denFn_calls Tryz.func99 T99_ok (Eq.mpr (B99_eq m_p0 w K) h)

-- 56 holdfast/wal.zeros
def T56 : Ann := (.seq .none (.seq .none .none))
theorem T56_ok : chkFn prog Tryz.f56 T56 = true := by kernel_rfl
def B56 (b_p0 : Value) (w : World) (K : Value → World → Prop) : Prop :=
  Calls prog 91 #[b_p0, (.func (.func 92) #[] #[])] w (Ret fun t_0 w =>
  pvv prog (Op.unary .not t_0) w fun t_1 w =>
  K t_1 w)
theorem B56_eq (b_p0 : Value) (w : World) (K : Value → World → Prop) : denFn prog Tryz.f56 T56 [b_p0] w K = B56 b_p0 w K := by kernel_rfl
theorem c56 {b_p0 : Value} {w : World} {K : Value → World → Prop} (h : B56 b_p0 w K) : Calls prog 56 #[b_p0] w (Ret K) :=
  denFn_calls Tryz.func56 T56_ok (Eq.mpr (B56_eq b_p0 w K) h)


end Go.Proofs.YtcjklbhobmkalaaGreat
